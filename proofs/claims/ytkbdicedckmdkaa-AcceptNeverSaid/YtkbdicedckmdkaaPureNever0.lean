/- What an acceptor does keeps it fit, and never goes back. -/
import Derived.Test.YtkbdicedckmdkaaContains
import Derived.Test.YtkbdicedckmdkaaP10
import Derived.Test.YtkbdicedckmdkaaP11
import Derived.Test.YtkbdicedckmdkaaP12
import Derived.Test.YtkbdicedckmdkaaP19
namespace Go.Proofs.Ytkbdicedckmdkaa.Pure
open Go.RowKit Go.Proofs.Ytkbdicedckmdkaa.P Go.Proofs.YtkbdicedckmdkaaW.PrintWords Go.Proofs.YtkbdicedckmdkaaW.PrintLast Go.Proofs.YtkbdicedckmdkaaW.PrintMore
set_option linter.unusedVariables false
namespace Nv
theorem wrap_of {x : Int} (h0 : -9223372036854775808 ≤ x) (h1 : x < 9223372036854775808) : wrap64 x = x := by unfold wrap64; omega
/-- An acceptor. -/
structure St where
  pr : Int
  pm : Int
  has : Bool
  ar : Int
  am : Int
  v : ByteArray
  c : List ByteArray
def later (a b c d : Int) : Bool := decide (a > c ∨ a = c ∧ b > d)
theorem later_some (a b c d : Int) : accept_Later.f a b c d = some (later a b c d) := by
  unfold accept_Later.f later
  by_cases h : a > c
  · rw [if_pos h, decide_eq_true (Or.inl h)]
  · rw [if_neg h]
    by_cases e : a = c
    · rw [if_pos e]
      congr 1
      by_cases q : b > d
      · rw [decide_eq_true q, decide_eq_true (Or.inr ⟨e, q⟩)]
      · rw [decide_eq_false q, decide_eq_false (fun z => z.elim h (fun y => q y.2))]
    · rw [if_neg e, decide_eq_false (fun z => z.elim h (fun y => e y.1))]
theorem later_no {a b c d : Int} : later a b c d = false ↔ ¬ (a > c ∨ a = c ∧ b > d) := decide_eq_false_iff_not
structure FitP (s : St) : Prop where
  p : (s.pr = 0 ∧ s.pm = 0) ∨ (1 ≤ s.pr ∧ s.pr ≤ 1073741824 ∧ 0 ≤ s.pm ∧ s.pm < 5)
  n : s.has = false → s.ar = 0 ∧ s.am = 0 ∧ s.v = ⟨#[]⟩
  h : s.has = true → 1 ≤ s.ar ∧ 0 ≤ s.am ∧ s.am < 5 ∧ later s.ar s.am s.pr s.pm = false ∧ isVal s.v = true
  l : s.c.length ≤ 4096
  a : ∀ x ∈ s.c, isVal x = true
theorem ballot_some (r m : Int) : accept_ballot.f r m = some (decide (1 ≤ r ∧ r ≤ 1073741824 ∧ 0 ≤ m ∧ m < 5)) := by
  unfold accept_ballot.f accept_mon.f
  by_cases h1 : r ≥ 1
  · rw [if_pos h1]
    by_cases h2 : r ≤ 1073741824
    · rw [if_pos h2]
      by_cases h3 : m ≥ 0
      · rw [if_pos h3]
        simp only [Option.bind_some]
        congr 1
        by_cases h4 : m < 5
        · rw [decide_eq_true h4, decide_eq_true ⟨h1, h2, h3, h4⟩]
        · rw [decide_eq_false h4, decide_eq_false (fun z => h4 z.2.2.2)]
      · rw [if_neg h3]
        simp only [Option.bind_some]
        rw [decide_eq_false (fun z => h3 z.2.2.1)]
    · rw [if_neg h2, decide_eq_false (fun z => h2 z.2.1)]
  · rw [if_neg h1, decide_eq_false (fun z => h1 z.1)]
theorem any_no (l : List ByteArray) (h : ∀ x ∈ l, isVal x = true) : (l.any fun s => !isVal s) = false := by
  rw [List.any_eq_false]
  intro x hx
  rw [h x hx]
  decide
theorem fit_j2 (s : St) (h : FitP s) (pr pm : Int) (b : Bool) (ar am : Int) (v : ByteArray) : Ev (fun k => accept_Fit.j2 k false pr pm b ar am v s.c) true := by
  refine Ev.step (f := fun _ => some true) (fun k => ?_) (Ev.now _)
  have hl := h.l
  simp only [accept_Fit.j2, slices_ContainsFunc_string_string.f, any_no s.c h.a, Bool.false_eq_true, if_false, Option.bind_some, Bool.not_false]
  rw [if_neg (by omega)]
theorem fit_j1 (s : St) (h : FitP s) : Ev (fun k => accept_Fit.j1 k false s.pr s.pm s.has s.ar s.am s.v s.c) true := by
  have h2 := fit_j2 s h s.pr s.pm s.has s.ar s.am s.v
  refine Ev.step (f := fun k => accept_Fit.j2 k false s.pr s.pm s.has s.ar s.am s.v s.c) (fun k => ?_) h2
  simp only [accept_Fit.j1, Bool.false_eq_true, if_false]
  cases hb : s.has with
  | false => simp only [Bool.false_eq_true, if_false]
  | true =>
    obtain ⟨q1, q2, q3, q4, q5⟩ := h.h hb
    have e : accept_mon.f s.am = some true := by unfold accept_mon.f; rw [if_pos q2, decide_eq_true q3]
    simp only [if_true, e, later_some, q4, isVal_some, q5, Option.bind_some, Bool.false_eq_true, if_false, Bool.not_true]
    rw [if_neg (by omega)]
theorem fit_j0 (s : St) (h : FitP s) : Ev (fun k => accept_Fit.j0 k false s.pr s.pm s.has s.ar s.am s.v s.c 0 0) true := by
  refine Ev.step (f := fun k => accept_Fit.j1 k false s.pr s.pm s.has s.ar s.am s.v s.c) (fun k => ?_) (fit_j1 s h)
  simp only [accept_Fit.j0, Bool.false_eq_true, if_false]
  cases hb : s.has with
  | true => simp only [if_true]
  | false =>
    obtain ⟨q1, q2, q3⟩ := h.n hb
    have emp : ((⟨#[]⟩ : ByteArray).toList != ([] : List UInt8)) = false := by decide +kernel
    rw [q1, q2, q3]
    simp only [beq_self_eq_true, Bool.not_true, Bool.or_self, Bool.false_eq_true, if_false, emp]
theorem fit_ev (s : St) (h : FitP s) : Ev (fun k => accept_Fit.f k s.pr s.pm s.has s.ar s.am s.v s.c) true := by
  unfold accept_Fit.f
  by_cases q : (!(s.pr == 0) || (!(s.pm == 0))) = true
  · have hp : 1 ≤ s.pr ∧ s.pr ≤ 1073741824 ∧ 0 ≤ s.pm ∧ s.pm < 5 := by
      rcases h.p with ⟨e1, e2⟩ | h
      · rw [e1, e2] at q; simp at q
      · exact h
    refine Ev.congr (f := fun k => accept_Fit.j0 k false s.pr s.pm s.has s.ar s.am s.v s.c 0 0) (fun k => ?_) (fit_j0 s h)
    rw [if_pos q, ballot_some, decide_eq_true hp]
    rfl
  · exact Ev.congr (fun k => if_neg q) (fit_j0 s h)
/-- What may follow. -/
structure Good (a b : St) : Prop where
  fit : FitP b
  p : later a.pr a.pm b.pr b.pm = false
  c : ∃ r, b.c = a.c ++ r
  h : a.has = true → b.c.length = a.c.length → b.has = true ∧ later a.ar a.am b.ar b.am = false
theorem good_same {a : St} (h : FitP a) : Good a a := ⟨h, later_no.2 (by omega), ⟨[], by simp⟩, fun q _ => ⟨q, later_no.2 (by omega)⟩⟩
theorem good_promise {a : St} (h : FitP a) (r m : Int) (hb : 1 ≤ r ∧ r ≤ 1073741824 ∧ 0 ≤ m ∧ m < 5) (hl : later a.pr a.pm r m = false) : Good a ⟨r, m, a.has, a.ar, a.am, a.v, a.c⟩ := by
  have hl' := later_no.1 hl
  refine ⟨⟨.inr hb, h.n, fun q => ?_, h.l, h.a⟩, hl, ⟨[], by simp⟩, fun q _ => ⟨q, later_no.2 (by show ¬ (a.ar > a.ar ∨ a.ar = a.ar ∧ a.am > a.am); omega)⟩⟩
  obtain ⟨q1, q2, q3, q4, q5⟩ := h.h q
  have q4' := later_no.1 q4
  exact ⟨q1, q2, q3, later_no.2 (by show ¬ (a.ar > r ∨ a.ar = r ∧ a.am > m); omega), q5⟩
theorem own_some (a : St) (h : FitP a) : accept_own.f a.pr a.pm a.has a.ar a.am a.v a.c = some (a.pr, a.pm, a.has, a.ar, a.am, a.v, a.c) := by
  have := h.l
  unfold accept_own.f slices_Clone_string_string.f
  rw [if_pos (by omega)]
  rfl
theorem prepare_ok (a : St) (h : FitP a) (r m : Int) : ∃ b ok, accept_Prepare.f a.pr a.pm a.has a.ar a.am a.v a.c r m = some (b.pr, b.pm, b.has, b.ar, b.am, b.v, b.c, ok) ∧ Good a b := by
  unfold accept_Prepare.f
  rw [own_some a h, ballot_some, later_some]
  simp only [Option.bind_some]
  by_cases hb : 1 ≤ r ∧ r ≤ 1073741824 ∧ 0 ≤ m ∧ m < 5
  · rw [decide_eq_true hb]
    cases hl : later a.pr a.pm r m with
    | true => exact ⟨a, false, rfl, good_same h⟩
    | false => exact ⟨_, true, rfl, good_promise h r m hb hl⟩
  · rw [decide_eq_false hb]
    exact ⟨a, false, rfl, good_same h⟩
theorem accept_ok (a : St) (h : FitP a) (r m ver : Int) (s : ByteArray) : ∃ b n, Ev (fun k => accept_Accept.f k a.pr a.pm a.has a.ar a.am a.v a.c r m ver s) (b.pr, b.pm, b.has, b.ar, b.am, b.v, b.c, n) ∧ Good a b := by
  have hno : Ev (fun k => accept_Accept.j0 k ver s true a.pr a.pm a.has a.ar a.am a.v a.c r m a.pr a.pm a.has a.ar a.am a.v a.c) (a.pr, a.pm, a.has, a.ar, a.am, a.v, a.c, (0 : Int)) :=
    Ev.step (f := fun _ => some (a.pr, a.pm, a.has, a.ar, a.am, a.v, a.c, (0 : Int))) (fun k => by simp only [accept_Accept.j0, if_true]) (Ev.now _)
  unfold accept_Accept.f
  rw [own_some a h, ballot_some, later_some, isVal_some]
  simp only [Option.bind_some]
  by_cases hb : 1 ≤ r ∧ r ≤ 1073741824 ∧ 0 ≤ m ∧ m < 5
  · rw [decide_eq_true hb]
    simp only [if_true]
    cases hl : later a.pr a.pm r m with
    | true => exact ⟨a, 0, hno, good_same h⟩
    | false =>
      simp only [Bool.false_eq_true, if_false]
      cases hv : isVal s with
      | false => exact ⟨a, 0, hno, good_same h⟩
      | true =>
        have hl4 := h.l
        have w : wrap64 ((a.c.length : Int) + 1) = (a.c.length : Int) + 1 := wrap_of (by omega) (by omega)
        simp only [Bool.not_true]
        by_cases q1 : ver < (a.c.length : Int) + 1
        · refine ⟨_, 2, Ev.step (f := fun _ => some (r, m, a.has, a.ar, a.am, a.v, a.c, (2 : Int))) (fun k => ?_) (Ev.now _), good_promise h r m hb hl⟩
          simp only [accept_Accept.j0, Bool.false_eq_true, if_false, w]
          rw [if_pos q1]
        · by_cases q2 : ver > (a.c.length : Int) + 1
          · refine ⟨_, 3, Ev.step (f := fun _ => some (r, m, a.has, a.ar, a.am, a.v, a.c, (3 : Int))) (fun k => ?_) (Ev.now _), good_promise h r m hb hl⟩
            simp only [accept_Accept.j0, Bool.false_eq_true, if_false, w]
            rw [if_neg q1, if_pos q2]
          · by_cases q3 : (a.c.length : Int) + 1 > 4096
            · refine ⟨_, 3, Ev.step (f := fun _ => some (r, m, a.has, a.ar, a.am, a.v, a.c, (3 : Int))) (fun k => ?_) (Ev.now _), good_promise h r m hb hl⟩
              simp only [accept_Accept.j0, Bool.false_eq_true, if_false, w]
              rw [if_neg q1, if_neg q2, if_pos q3]
            · refine ⟨⟨r, m, true, r, m, s, a.c⟩, 1, Ev.step (f := fun _ => some (r, m, true, r, m, s, a.c, (1 : Int))) (fun k => ?_) (Ev.now _), ?_⟩
              · simp only [accept_Accept.j0, Bool.false_eq_true, if_false, w]
                rw [if_neg q1, if_neg q2, if_neg q3]
              · clear w
                have hl' := later_no.1 hl
                refine ⟨⟨.inr hb, fun z => (by cases z), fun _ => ⟨hb.1, hb.2.2.1, hb.2.2.2, later_no.2 (by show ¬ (r > r ∨ r = r ∧ m > m); omega), hv⟩, h.l, h.a⟩, hl, ⟨[], by simp⟩, fun q _ => ⟨rfl, ?_⟩⟩
                obtain ⟨z1, z2, z3, z4, z5⟩ := h.h q
                have z4' := later_no.1 z4
                exact later_no.2 (by show ¬ (a.ar > r ∨ a.ar = r ∧ a.am > m); omega)
  · rw [decide_eq_false hb]
    simp only [Bool.false_eq_true, if_false]
    exact ⟨a, 0, hno, good_same h⟩
theorem learn_l0 (a : St) (l : List ByteArray) (hl : l.length < 4611686018427387904) : ∀ (d i : Nat) (n : Int) (c : List ByteArray), i + d = l.length → 0 ≤ n → n ≤ i → (n = 0 → c = a.c) → (0 < n → a.c.length < c.length) → (∃ r, c = a.c ++ r) → c.length ≤ 4096 → (∀ x ∈ c, isVal x = true) →
    ∃ b m, Ev (fun k => accept_Learn.l0 k n l (l.length : Int) (i : Int) a.pr a.pm a.has a.ar a.am a.v c) (b.pr, b.pm, b.has, b.ar, b.am, b.v, b.c, m) ∧ (FitP a → Good a b) := by
  have hend : ∀ (n : Int) (c : List ByteArray), 0 ≤ n → (n = 0 → c = a.c) → (0 < n → a.c.length < c.length) → (∃ r, c = a.c ++ r) → c.length ≤ 4096 → (∀ x ∈ c, isVal x = true) →
      ∃ (b : St) (m : Int), (if n > 0 then some (a.pr, a.pm, false, (0 : Int), (0 : Int), (⟨#[]⟩ : ByteArray), c, n) else some (a.pr, a.pm, a.has, a.ar, a.am, a.v, c, n)) = some (b.pr, b.pm, b.has, b.ar, b.am, b.v, b.c, m) ∧ (FitP a → Good a b) := by
    intro n c h0 h1 h2 h3 h4 h5
    by_cases q : n > 0
    · refine ⟨⟨a.pr, a.pm, false, 0, 0, ⟨#[]⟩, c⟩, n, by rw [if_pos q], fun h => ⟨⟨h.p, fun _ => ⟨rfl, rfl, rfl⟩, fun z => (by cases z), h4, h5⟩, later_no.2 (by show ¬ (a.pr > a.pr ∨ a.pr = a.pr ∧ a.pm > a.pm); omega), h3, fun _ e => ?_⟩⟩
      have := h2 q
      have e' : c.length = a.c.length := e
      omega
    · have hc := h1 (by omega)
      refine ⟨a, n, by rw [if_neg q, hc], fun h => good_same h⟩
  intro d
  induction d with
  | zero =>
    intro i n c hi h0 hni h1 h2 h3 h4 h5
    obtain ⟨b, m, e, g⟩ := hend n c h0 h1 h2 h3 h4 h5
    refine ⟨b, m, Ev.step (f := fun _ => some (b.pr, b.pm, b.has, b.ar, b.am, b.v, b.c, m)) (fun k => ?_) (Ev.now _), g⟩
    rw [← e]
    simp only [accept_Learn.l0]
    rw [if_neg (by omega)]
  | succ d ih =>
    intro i n c hi h0 hni h1 h2 h3 h4 h5
    have hlt : (i : Int) < (l.length : Int) := by omega
    obtain ⟨s, hs⟩ : ∃ s, rdOf ByteArray.empty l (i : Int) = s := ⟨_, rfl⟩
    by_cases hv : isVal s = true
    · by_cases q : (c.length : Int) ≥ 4096
      · obtain ⟨b, m, e, g⟩ := hend n c h0 h1 h2 h3 h4 h5
        refine ⟨b, m, Ev.step (f := fun _ => some (b.pr, b.pm, b.has, b.ar, b.am, b.v, b.c, m)) (fun k => ?_) (Ev.now _), g⟩
        rw [← e]
        simp only [accept_Learn.l0, hs, isVal_some, Option.bind_some]
        rw [if_pos hlt, if_pos (Int.natCast_nonneg _), if_pos hlt, if_pos hv, if_pos q]
      · obtain ⟨r, hr⟩ := h3
        obtain ⟨b, m, e, g⟩ := ih (i + 1) (n + 1) (c ++ [s]) (by omega) (by omega) (by omega) (fun z => by omega) (fun _ => by rw [List.length_append, hr, List.length_append]; simp; omega) ⟨r ++ [s], by rw [hr, List.append_assoc]⟩ (by rw [List.length_append]; simp; omega) (fun x hx => by
          rcases List.mem_append.1 hx with hx | hx
          · exact h5 x hx
          · rw [List.mem_singleton] at hx; rw [hx]; exact hv)
        refine ⟨b, m, Ev.step (fun k => ?_) e, g⟩
        obtain ⟨w1, w2⟩ : wrap64 (n + 1) = n + 1 ∧ wrap64 ((i : Int) + 1) = ((i + 1 : Nat) : Int) := ⟨wrap_of (by omega) (by omega), by rw [wrap_of (by omega) (by omega)]; omega⟩
        simp only [accept_Learn.l0, hs, isVal_some, Option.bind_some, w1, w2]
        clear w1 w2
        rw [if_pos hlt, if_pos (Int.natCast_nonneg _), if_pos hlt, if_pos hv, if_neg q, if_pos (by omega)]
    · obtain ⟨b, m, e, g⟩ := hend n c h0 h1 h2 h3 h4 h5
      refine ⟨b, m, Ev.step (f := fun _ => some (b.pr, b.pm, b.has, b.ar, b.am, b.v, b.c, m)) (fun k => ?_) (Ev.now _), g⟩
      rw [← e]
      simp only [accept_Learn.l0, hs, isVal_some, Option.bind_some]
      rw [if_pos hlt, if_pos (Int.natCast_nonneg _), if_pos hlt, if_neg hv]
theorem learn_ok (a : St) (h : FitP a) (first : Int) (l : List ByteArray) (hl : l.length < 4611686018427387904) (hf : -9223372036854775808 ≤ first) : ∃ b n, Ev (fun k => accept_Learn.f k a.pr a.pm a.has a.ar a.am a.v a.c first l) (b.pr, b.pm, b.has, b.ar, b.am, b.v, b.c, n) ∧ Good a b := by
  have hl4 := h.l
  have hno : Ev (fun k => accept_Learn.j0 k first l (a.c.length : Int) true a.pr a.pm a.has a.ar a.am a.v a.c) (a.pr, a.pm, a.has, a.ar, a.am, a.v, a.c, (0 : Int)) :=
    Ev.step (f := fun _ => some (a.pr, a.pm, a.has, a.ar, a.am, a.v, a.c, (0 : Int))) (fun k => by simp only [accept_Learn.j0, if_true]) (Ev.now _)
  unfold accept_Learn.f
  rw [own_some a h]
  simp only [Option.bind_some]
  by_cases q1 : first < 0
  · exact ⟨a, 0, Ev.congr (fun k => if_pos q1) hno, good_same h⟩
  · by_cases q2 : first > (a.c.length : Int)
    · exact ⟨a, 0, Ev.congr (fun k => by rw [if_neg q1, if_pos q2]) hno, good_same h⟩
    · have w : wrap64 ((a.c.length : Int) - first) = (a.c.length : Int) - first := wrap_of (by omega) (by omega)
      by_cases q3 : (l.length : Int) ≤ (a.c.length : Int) - first
      · exact ⟨a, 0, Ev.congr (fun k => by rw [if_neg q1, if_neg q2, w, decide_eq_true q3]) hno, good_same h⟩
      · obtain ⟨t, ht⟩ : ∃ t, l.drop ((a.c.length : Int) - first).toNat = t := ⟨_, rfl⟩
        have htl : t.length < 4611686018427387904 := by rw [← ht, List.length_drop]; clear w; omega
        obtain ⟨b, m, e, g⟩ := learn_l0 a t htl t.length 0 0 a.c (by omega) (Int.le_refl _) (Int.le_refl _) (fun _ => rfl) (fun z => absurd z (Int.lt_irrefl _)) ⟨[], by simp⟩ h.l h.a
        refine ⟨b, m, Ev.congr (f := fun k => accept_Learn.j0 k first l (a.c.length : Int) false a.pr a.pm a.has a.ar a.am a.v a.c) (fun k => by rw [if_neg q1, if_neg q2, w, decide_eq_false q3]) (Ev.step (fun k => ?_) e), g h⟩
        simp only [accept_Learn.j0, Bool.false_eq_true, if_false, w, ht]
        clear w
        rw [if_pos (by omega), if_pos (by omega)]
        rfl
theorem fit_zero : FitP ⟨0, 0, false, 0, 0, ⟨#[]⟩, []⟩ := ⟨.inl ⟨rfl, rfl⟩, fun _ => ⟨rfl, rfl, rfl⟩, fun z => (by cases z), Nat.zero_le _, fun x hx => (by cases hx)⟩
end Nv
end Go.Proofs.Ytkbdicedckmdkaa.Pure
