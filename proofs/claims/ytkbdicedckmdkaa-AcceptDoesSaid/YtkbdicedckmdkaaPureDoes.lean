-- left of the seat's texts by prune.py, a program of this session
import Derived.Test.YtkbdicedckmdkaaP17
namespace Go.Proofs.Ytkbdicedckmdkaa.Pure
open Go.RowKit Go.Proofs.Ytkbdicedckmdkaa.P Go.Proofs.YtkbdicedckmdkaaW.PrintWords Go.Proofs.YtkbdicedckmdkaaW.PrintLast Go.Proofs.YtkbdicedckmdkaaW.PrintMore
set_option linter.unusedVariables false
theorem awake_ev : Ev (fun k => reeflaw15_awake.f k) true := Ev.of (k := 12) (fun k => reeflaw15_awake.mono k) (by decide +kernel)
theorem wrap_of {x : Int} (h0 : -9223372036854775808 ≤ x) (h1 : x < 9223372036854775808) : wrap64 x = x := by unfold wrap64; omega
theorem texts_self (l : List ByteArray) (hl : l.length < 9223372036854775807) : Ev (fun k => reefref15_Texts.f k l l) true := by
  have : ∀ (d i : Nat), i + d = l.length → Ev (fun k => reefref15_Texts.l0 k l l i) true := by
    intro d
    induction d with
    | zero =>
      intro i hi
      refine Ev.step (f := fun _ => some true) (fun k => ?_) (Ev.now _)
      simp only [reefref15_Texts.l0]
      rw [if_neg (by omega)]
    | succ d ih =>
      intro i hi
      refine Ev.step (f := fun k => reefref15_Texts.l0 k l l ((i + 1 : Nat) : Int)) (fun k => ?_) (ih (i + 1) (by omega))
      simp only [reefref15_Texts.l0]
      rw [if_pos (by omega), if_pos (by omega), if_pos (by omega), if_true, wrap_of (by omega) (by omega)]
      rfl
  refine Ev.congr (f := fun k => reefref15_Texts.l0 k l l (0 : Nat)) (fun k => ?_) (this l.length 0 (by omega))
  simp only [reefref15_Texts.f, if_true]
  rfl
theorem same_self (a b : Int) (c : Bool) (d e : Int) (s : ByteArray) (l : List ByteArray) (hl : l.length < 9223372036854775807) : Ev (fun k => reefref15_Same.f k a b c d e s l a b c d e s l) true := by
  refine Ev.congr (f := fun k => (reefref15_Texts.f k l l).bind fun t => some t) (fun k => ?_) (Ev.bind (texts_self l hl) (Ev.now _))
  simp [reefref15_Same.f]
theorem ballot_eq (x y : Int) : accept_ballot.f x y = reefref15_Ballot.f x y := by
  unfold accept_ballot.f reefref15_Ballot.f accept_mon.f
  repeat' split
  all_goals simp_all
theorem ballot_some (x y : Int) : ∃ b, reefref15_Ballot.f x y = some b := by
  unfold reefref15_Ballot.f; repeat' split
  all_goals exact ⟨_, rfl⟩
theorem later_eq (a b x y : Int) : accept_Later.f a b x y = reefref15_Later.f a b x y := rfl
theorem later_some (a b x y : Int) : ∃ r, reefref15_Later.f a b x y = some r := by
  unfold reefref15_Later.f; repeat' split
  all_goals exact ⟨_, rfl⟩
theorem toList_nil {s : ByteArray} : s.toList = ([] : List UInt8) ↔ s.size = 0 := by
  rw [← List.length_eq_zero_iff, ByteArray.toList_eq]; rfl
theorem value_eq (s : ByteArray) : accept_value.f s = reefref15_Value.f s := by
  unfold accept_value.f reefref15_Value.f
  by_cases h : s.size = 0
  · rw [if_pos (toList_nil.2 h), if_neg (by omega)]
  · rw [if_neg (fun e => h (toList_nil.1 e)), if_pos (by omega)]
theorem value_some (s : ByteArray) : ∃ r, reefref15_Value.f s = some r := by
  unfold reefref15_Value.f; repeat' split
  all_goals exact ⟨_, rfl⟩
theorem fit_l0 (l : List ByteArray) (hl : l.length < 9223372036854775807) (a b : Int) (c : Bool) (d e : Int) (s : ByteArray) : ∀ (n i : Nat), i + n = l.length → i ≤ 4096 →
    ∃ r, Ev (fun k => reefref15_Fit.l0 k i a b c d e s l) r ∧ (r = true → l.length ≤ 4096) := by
  intro n
  induction n with
  | zero =>
    intro i hi h4
    refine ⟨true, Ev.step (f := fun _ => some true) (fun k => ?_) (Ev.now _), fun _ => by omega⟩
    simp only [reefref15_Fit.l0]
    rw [if_neg (by omega)]
  | succ n ih =>
    intro i hi h4
    by_cases h : i = 4096
    · refine ⟨false, Ev.step (f := fun _ => some false) (fun k => ?_) (Ev.now _), by simp⟩
      simp only [reefref15_Fit.l0]
      rw [if_pos (by omega), if_pos (by omega)]
    · obtain ⟨v, hv⟩ := value_some (rdOf ByteArray.empty l i)
      cases v with
      | false =>
        refine ⟨false, Ev.step (f := fun _ => some false) (fun k => ?_) (Ev.now _), by simp⟩
        simp only [reefref15_Fit.l0]
        rw [if_pos (by omega), if_neg (by omega), if_pos (by omega), hv]
        rfl
      | true =>
        obtain ⟨r, hr, hb⟩ := ih (i + 1) (by omega) (by omega)
        refine ⟨r, Ev.step (f := fun k => reefref15_Fit.l0 k ((i + 1 : Nat) : Int) a b c d e s l) (fun k => ?_) hr, hb⟩
        simp only [reefref15_Fit.l0]
        rw [if_pos (by omega), if_neg (by omega), if_pos (by omega), hv, wrap_of (by omega) (by omega)]
        rfl
theorem fit_j1 (l : List ByteArray) (hl : l.length < 9223372036854775807) (a b : Int) (c : Bool) (d e : Int) (s : ByteArray) :
    ∃ r, Ev (fun k => reefref15_Fit.j1 k a b c d e s l) r ∧ (r = true → l.length ≤ 4096) := by
  obtain ⟨r, hr, hb⟩ := fit_l0 l hl a b c d e s l.length 0 (by omega) (by omega)
  exact ⟨r, Ev.step (f := fun k => reefref15_Fit.l0 k (0 : Nat) a b c d e s l) (fun k => rfl) hr, hb⟩
theorem ev_false {g : Nat → Option Bool} {P : Prop} (h : ∀ k, g (k + 1) = some false) : ∃ r, Ev g r ∧ (r = true → P) :=
  ⟨false, Ev.step (f := fun _ => some false) h (Ev.now _), by simp⟩
theorem ev_same {g f : Nat → Option Bool} {P : Prop} (h : ∀ k, g (k + 1) = f k) (hf : ∃ r, Ev f r ∧ (r = true → P)) : ∃ r, Ev g r ∧ (r = true → P) := by
  obtain ⟨r, hr, hb⟩ := hf; exact ⟨r, Ev.step h hr, hb⟩
theorem fit_j0 (x : Bool) (l : List ByteArray) (hl : l.length < 9223372036854775807) (a b : Int) (c : Bool) (d e : Int) (s : ByteArray) :
    ∃ r, Ev (fun k => reefref15_Fit.j0 k x a b c d e s l) r ∧ (r = true → l.length ≤ 4096) := by
  have J := fit_j1 l hl a b c d e s
  obtain ⟨t, ht⟩ := later_some d e a b
  obtain ⟨v, hv⟩ := value_some s
  cases x with
  | true => exact ev_false (fun k => by simp [reefref15_Fit.j0])
  | false =>
    cases c with
    | true =>
      by_cases h1 : d < 1
      · exact ev_false (fun k => by simp [reefref15_Fit.j0, h1])
      by_cases h2 : e < 0
      · exact ev_false (fun k => by simp [reefref15_Fit.j0, h1, h2])
      by_cases h3 : e ≥ 5
      · exact ev_false (fun k => by simp [reefref15_Fit.j0, h1, h2, h3])
      cases t with
      | true => exact ev_false (fun k => by simp [reefref15_Fit.j0, h1, h2, h3, ht])
      | false =>
        cases v with
        | false => exact ev_false (fun k => by simp [reefref15_Fit.j0, h1, h2, h3, ht, hv])
        | true => exact ev_same (fun k => by simp [reefref15_Fit.j0, h1, h2, h3, ht, hv]) J
    | false =>
      by_cases h1 : (!(d == 0) || (!(e == 0))) = true
      · exact ev_false (fun k => by simp only [reefref15_Fit.j0, h1]; rfl)
      by_cases h2 : s.toList = ([] : List UInt8)
      · exact ev_same (fun k => by simp only [reefref15_Fit.j0, h1, h2]; rfl) J
      · exact ev_false (fun k => by simp only [reefref15_Fit.j0, h1, h2]; rfl)
theorem fit_ends (l : List ByteArray) (hl : l.length < 9223372036854775807) (a b : Int) (c : Bool) (d e : Int) (s : ByteArray) :
    ∃ r, Ev (fun k => reefref15_Fit.f k a b c d e s l) r ∧ (r = true → l.length ≤ 4096) := by
  obtain ⟨t, ht⟩ := ballot_some a b
  cases t with
  | true =>
    obtain ⟨r, hr, hb⟩ := fit_j0 false l hl a b c d e s
    exact ⟨r, Ev.congr (fun k => by simp [reefref15_Fit.f, ht]) hr, hb⟩
  | false =>
    obtain ⟨r, hr, hb⟩ := fit_j0 (!(a == 0) || (!(b == 0))) l hl a b c d e s
    exact ⟨r, Ev.congr (fun k => by simp only [reefref15_Fit.f, ht]; rfl) hr, hb⟩
theorem own_is (a b : Int) (c : Bool) (d e : Int) (s : ByteArray) (l : List ByteArray) (hl : l.length ≤ 4096) : accept_own.f a b c d e s l = some (a, b, c, d, e, s, l) := by
  unfold accept_own.f slices_Clone_string_string.f
  rw [if_pos (by omega)]; rfl
theorem copy_is (a b : Int) (c : Bool) (d e : Int) (s : ByteArray) (l : List ByteArray) (hl : l.length ≤ 4096) : reefref15_Copy.f a b c d e s l = some (a, b, c, d, e, s, l) := by
  unfold reefref15_Copy.f
  rw [if_pos (by omega)]
theorem prepare_is (a b : Int) (c : Bool) (d e : Int) (s : ByteArray) (l : List ByteArray) (hl : l.length ≤ 4096) (x y : Int) :
    ∃ a' b' ok, accept_Prepare.f a b c d e s l x y = some (a', b', c, d, e, s, l, ok) ∧ reefref15_Prepare.f a b c d e s l x y = some (a', b', c, d, e, s, l, ok) := by
  obtain ⟨t, ht⟩ := ballot_some x y
  obtain ⟨u, hu⟩ := later_some a b x y
  unfold accept_Prepare.f reefref15_Prepare.f
  rw [own_is a b c d e s l hl, copy_is a b c d e s l hl, ballot_eq, later_eq, ht, hu]
  cases t <;> cases u <;> exact ⟨_, _, _, rfl, rfl⟩
theorem accept_j0 (k : Nat) (v : Int) (s' : ByteArray) (q : Bool) (a b : Int) (c : Bool) (d e : Int) (s : ByteArray) (l : List ByteArray) (hl : l.length ≤ 4096) (x y : Int) :
    ∃ a' b' c' d' e' s'' n, accept_Accept.j0 (k + 1) v s' q a b c d e s l x y a b c d e s l = some (a', b', c', d', e', s'', l, n) ∧
      reefref15_Accept.j0 (k + 1) v s' q a b c d e s l x y a b c d e s l = some (a', b', c', d', e', s'', l, n) := by
  simp only [accept_Accept.j0, reefref15_Accept.j0]
  rw [wrap_of (x := (l.length : Int) + 1) (by omega) (by omega)]
  cases q with
  | true => exact ⟨_, _, _, _, _, _, _, rfl, rfl⟩
  | false =>
    simp only [Bool.false_eq_true, if_false]
    by_cases h1 : v ≤ (l.length : Int)
    · rw [if_pos (show v < (l.length : Int) + 1 by omega), if_pos h1]; exact ⟨_, _, _, _, _, _, _, rfl, rfl⟩
    rw [if_neg (show ¬ v < (l.length : Int) + 1 by omega), if_neg h1]
    by_cases h2 : v = (l.length : Int) + 1
    · rw [if_neg (show ¬ v > (l.length : Int) + 1 by omega), if_pos h2]
      by_cases h3 : (l.length : Int) ≥ 4096
      · rw [if_pos (show (l.length : Int) + 1 > 4096 by omega), if_pos h3]; exact ⟨_, _, _, _, _, _, _, rfl, rfl⟩
      · rw [if_neg (show ¬ (l.length : Int) + 1 > 4096 by omega), if_neg h3]; exact ⟨_, _, _, _, _, _, _, rfl, rfl⟩
    · rw [if_pos (show v > (l.length : Int) + 1 by omega), if_neg h2]; exact ⟨_, _, _, _, _, _, _, rfl, rfl⟩
def Alike {α : Type} (f g : Nat → Option α) (P : α → Prop) : Prop := ∃ r, Ev f r ∧ Ev g r ∧ P r
theorem accept_is (a b : Int) (c : Bool) (d e : Int) (s : ByteArray) (l : List ByteArray) (hl : l.length ≤ 4096) (x y v : Int) (s' : ByteArray) :
    Alike (fun k => accept_Accept.f k a b c d e s l x y v s') (fun k => reefref15_Accept.f k a b c d e s l x y v s') (fun r => r.2.2.2.2.2.2.1 = l) := by
  have K : ∀ q, Alike (fun k => accept_Accept.j0 k v s' q a b c d e s l x y a b c d e s l) (fun k => reefref15_Accept.j0 k v s' q a b c d e s l x y a b c d e s l) (fun r => r.2.2.2.2.2.2.1 = l) := by
    intro q
    obtain ⟨a', b', c', d', e', s'', n, h1, h2⟩ := accept_j0 0 v s' q a b c d e s l hl x y
    refine ⟨_, Ev.step (f := fun _ => some (a', b', c', d', e', s'', l, n)) (fun k => ?_) (Ev.now _), Ev.step (f := fun _ => some (a', b', c', d', e', s'', l, n)) (fun k => ?_) (Ev.now _), rfl⟩
    · exact h1
    · exact h2
  obtain ⟨t, ht⟩ := ballot_some x y
  obtain ⟨u, hu⟩ := later_some a b x y
  obtain ⟨z, hz⟩ := value_some s'
  have go : ∀ q, (∀ k, accept_Accept.f k a b c d e s l x y v s' = accept_Accept.j0 k v s' q a b c d e s l x y a b c d e s l) → (∀ k, reefref15_Accept.f k a b c d e s l x y v s' = reefref15_Accept.j0 k v s' q a b c d e s l x y a b c d e s l) →
      Alike (fun k => accept_Accept.f k a b c d e s l x y v s') (fun k => reefref15_Accept.f k a b c d e s l x y v s') (fun r => r.2.2.2.2.2.2.1 = l) := by
    intro q h1 h2
    obtain ⟨r, g1, g2, g3⟩ := K q
    exact ⟨r, Ev.congr h1 g1, Ev.congr h2 g2, g3⟩
  cases t with
  | false => exact go true (fun k => by simp [accept_Accept.f, own_is a b c d e s l hl, ballot_eq, ht]) (fun k => by simp [reefref15_Accept.f, copy_is a b c d e s l hl, ht])
  | true =>
    cases u with
    | true => exact go true (fun k => by simp [accept_Accept.f, own_is a b c d e s l hl, ballot_eq, ht, later_eq, hu]) (fun k => by simp [reefref15_Accept.f, copy_is a b c d e s l hl, ht, hu])
    | false => exact go (!z) (fun k => by simp [accept_Accept.f, own_is a b c d e s l hl, ballot_eq, ht, later_eq, hu, value_eq, hz]) (fun k => by simp [reefref15_Accept.f, copy_is a b c d e s l hl, ht, hu, hz])
theorem learn_l0 (l2 : List ByteArray) (h2 : l2.length < 9223372036854775807) (m : Nat) (a b : Int) (c : Bool) (d e : Int) (s : ByteArray) : ∀ (n j t : Nat) (l : List ByteArray), m + j + n = l2.length → t ≤ j → l.length ≤ 4096 →
    Alike (fun k => accept_Learn.l0 k t (l2.drop m) ((l2.drop m).length : Int) j a b c d e s l) (fun k => reefref15_Learn.l0 k l2 t ((m + j : Nat) : Int) a b c d e s l) (fun r => r.2.2.2.2.2.2.1.length ≤ 4096) := by
  intro n
  have hd : (l2.drop m).length = l2.length - m := by rw [List.length_drop]
  have stop : ∀ (j t : Nat) (l : List ByteArray), l.length ≤ 4096 → (∀ k, accept_Learn.l0 (k + 1) t (l2.drop m) ((l2.drop m).length : Int) j a b c d e s l = if (t : Int) > 0 then (some (a, b, false, 0, 0, (⟨#[]⟩ : ByteArray), l, (t : Int))) else (some (a, b, c, d, e, s, l, (t : Int)))) →
      (∀ k, reefref15_Learn.l0 (k + 1) l2 t ((m + j : Nat) : Int) a b c d e s l = if (t : Int) > 0 then (some (a, b, false, 0, 0, (⟨#[]⟩ : ByteArray), l, (t : Int))) else (some (a, b, c, d, e, s, l, (t : Int)))) →
      Alike (fun k => accept_Learn.l0 k t (l2.drop m) ((l2.drop m).length : Int) j a b c d e s l) (fun k => reefref15_Learn.l0 k l2 t ((m + j : Nat) : Int) a b c d e s l) (fun r => r.2.2.2.2.2.2.1.length ≤ 4096) := by
    intro j t l hl g1 g2
    by_cases h : (t : Int) > 0
    · simp only [if_pos h] at g1 g2
      exact ⟨_, Ev.step g1 (Ev.now _), Ev.step g2 (Ev.now _), hl⟩
    · simp only [if_neg h] at g1 g2
      exact ⟨_, Ev.step g1 (Ev.now _), Ev.step g2 (Ev.now _), hl⟩
  induction n with
  | zero =>
    intro j t l hn ht hl
    refine stop j t l hl (fun k => ?_) (fun k => ?_)
    · simp only [accept_Learn.l0]
      rw [if_neg (by rw [hd]; omega)]
    · simp only [reefref15_Learn.l0]
      rw [if_neg (by omega)]
  | succ n ih =>
    intro j t l hn ht hl
    have hr : rdOf ByteArray.empty (l2.drop m) (j : Int) = rdOf ByteArray.empty l2 ((m + j : Nat) : Int) := by
      simp only [rdOf, Int.toNat_natCast, List.getD_eq_getElem?_getD, List.getElem?_drop]
    obtain ⟨v, hv⟩ := value_some (rdOf ByteArray.empty l2 ((m + j : Nat) : Int))
    cases v with
    | false =>
      refine stop j t l hl (fun k => ?_) (fun k => ?_)
      · simp only [accept_Learn.l0]
        rw [if_pos (by rw [hd]; omega), if_pos (by omega), if_pos (by rw [hd]; omega), hr, value_eq, hv]
        rfl
      · simp only [reefref15_Learn.l0]
        rw [if_pos (by omega), if_pos (by omega), hv]
        rfl
    | true =>
      by_cases h4 : (l.length : Int) ≥ 4096
      · refine stop j t l hl (fun k => ?_) (fun k => ?_)
        · simp only [accept_Learn.l0]
          rw [if_pos (by rw [hd]; omega), if_pos (by omega), if_pos (by rw [hd]; omega), hr, value_eq, hv]
          simp only [Option.bind_some, if_true]
          rw [if_pos h4]
        · simp only [reefref15_Learn.l0]
          rw [if_pos (by omega), if_pos (by omega), hv]
          simp only [Option.bind_some, if_true]
          rw [if_pos h4]
      · obtain ⟨r, g1, g2, g3⟩ := ih (j + 1) (t + 1) (l ++ [rdOf ByteArray.empty l2 ((m + j : Nat) : Int)]) (by omega) (by omega) (by simp; omega)
        refine ⟨r, Ev.step (fun k => ?_) g1, Ev.step (fun k => ?_) g2, g3⟩
        · simp only [accept_Learn.l0]
          rw [if_pos (by rw [hd]; omega), if_pos (by omega), if_pos (by rw [hd]; omega), hr, value_eq, hv]
          simp only [Option.bind_some, if_true]
          rw [if_neg h4, if_pos (by omega), wrap_of (by omega) (by omega), wrap_of (by omega) (by omega)]
          rfl
        · simp only [reefref15_Learn.l0]
          rw [if_pos (by omega), if_pos (by omega), hv]
          simp only [Option.bind_some, if_true]
          rw [if_neg h4, if_pos (by omega), wrap_of (by omega) (by omega), wrap_of (by omega) (by omega)]
          rfl
theorem learn_is (a b : Int) (c : Bool) (d e : Int) (s : ByteArray) (l : List ByteArray) (hl : l.length ≤ 4096) (f : Int) (l2 : List ByteArray) (h2 : l2.length < 9223372036854775807) :
    Alike (fun k => accept_Learn.f k a b c d e s l f l2) (fun k => reefref15_Learn.f k a b c d e s l f l2) (fun r => r.2.2.2.2.2.2.1.length ≤ 4096) := by
  have own := own_is a b c d e s l hl
  have cop := copy_is a b c d e s l hl
  have ev0 : Ev (fun k => accept_Learn.j0 k f l2 (l.length : Int) true a b c d e s l) (a, b, c, d, e, s, l, 0) := Ev.step (f := fun _ => some (a, b, c, d, e, s, l, 0)) (fun k => by simp [accept_Learn.j0]) (Ev.now _)
  have ev1 : Ev (fun k => reefref15_Learn.j0 k f l2 (l.length : Int) true a b c d e s l) (a, b, c, d, e, s, l, 0) := Ev.step (f := fun _ => some (a, b, c, d, e, s, l, 0)) (fun k => by simp [reefref15_Learn.j0]) (Ev.now _)
  by_cases c1 : f < 0
  · exact ⟨_, Ev.congr (fun k => by simp [accept_Learn.f, own, c1]) ev0, Ev.congr (fun k => by simp [reefref15_Learn.f, cop, c1]) ev1, hl⟩
  by_cases c2 : f > (l.length : Int)
  · refine ⟨_, Ev.congr (fun k => ?_) ev0, Ev.congr (fun k => ?_) ev1, hl⟩
    · simp only [accept_Learn.f, own, Option.bind_some]
      rw [if_neg c1, if_pos c2]
    · simp only [reefref15_Learn.f, cop, Option.bind_some]
      rw [if_neg c1, decide_eq_true c2]
  obtain ⟨m, hm⟩ : ∃ m : Nat, (l.length : Int) - f = m := ⟨((l.length : Int) - f).toNat, by omega⟩
  have hw : wrap64 ((l.length : Int) - f) = m := by rw [wrap_of (by omega) (by omega)]; exact hm
  by_cases c3 : (l2.length : Int) ≤ m
  · refine ⟨_, Ev.congr (fun k => ?_) ev0, Ev.congr (f := fun k => reefref15_Learn.j0 k f l2 (l.length : Int) false a b c d e s l) (fun k => ?_) ?_, hl⟩
    · simp only [accept_Learn.f, own, Option.bind_some]
      rw [if_neg c1, if_neg c2, hw, decide_eq_true c3]
    · simp only [reefref15_Learn.f, cop, Option.bind_some]
      rw [if_neg c1, decide_eq_false c2]
    · refine Ev.step (f := fun k => reefref15_Learn.l0 k l2 0 (m : Int) a b c d e s l) (fun k => ?_) (Ev.step (f := fun _ => some (a, b, c, d, e, s, l, 0)) (fun k => ?_) (Ev.now _))
      · simp only [reefref15_Learn.j0]
        rw [if_neg (by simp), hw]
      · simp only [reefref15_Learn.l0]
        rw [if_neg (by omega), if_neg (by omega)]
  · obtain ⟨r, g1, g2, g3⟩ := learn_l0 l2 h2 m a b c d e s (l2.length - m) 0 0 l (by omega) (by omega) hl
    refine ⟨r, Ev.congr (f := fun k => accept_Learn.j0 k f l2 (l.length : Int) false a b c d e s l) (fun k => ?_) (Ev.step (fun k => ?_) g1), Ev.congr (f := fun k => reefref15_Learn.j0 k f l2 (l.length : Int) false a b c d e s l) (fun k => ?_) (Ev.step (fun k => ?_) g2), g3⟩
    · simp only [accept_Learn.f, own, Option.bind_some]
      rw [if_neg c1, if_neg c2, hw, decide_eq_false c3]
    · simp only [accept_Learn.j0]
      rw [if_neg (by simp), hw, if_pos (by omega), if_pos (by omega)]
      rfl
    · simp only [reefref15_Learn.f, cop, Option.bind_some]
      rw [if_neg c1, decide_eq_false c2]
    · simp only [reefref15_Learn.j0]
      rw [if_neg (by simp), hw]
      rfl
theorem values_l0 (most : Int) (a b : Int) (c : Bool) (d e : Int) (s : ByteArray) (l : List ByteArray) (hl : l.length ≤ 4096) : ∀ (n i : Nat) (o : List ByteArray), i + n = l.length → o.length ≤ i →
    Ev (fun k => reefref15_Values.l0 k most o i a b c d e s l) (o ++ (l.drop i).take (most.toNat - o.length)) := by
  intro n
  induction n with
  | zero =>
    intro i o hn ho
    refine Ev.step (f := fun _ => some (o ++ (l.drop i).take (most.toNat - o.length))) (fun k => ?_) (Ev.now _)
    simp only [reefref15_Values.l0]
    rw [if_neg (by omega), List.drop_eq_nil_of_le (by omega)]
    simp
  | succ n ih =>
    intro i o hn ho
    by_cases h : (o.length : Int) < most
    · have e1 : (l.drop i).take (most.toNat - o.length) = rdOf ByteArray.empty l i :: (l.drop (i + 1)).take (most.toNat - (o ++ [rdOf ByteArray.empty l i]).length) := by
        have hi : i < l.length := by omega
        rw [List.drop_eq_getElem_cons hi]
        obtain ⟨q, hq⟩ : ∃ q, most.toNat - o.length = q + 1 := ⟨most.toNat - o.length - 1, by omega⟩
        rw [hq, List.take_succ_cons]
        have : most.toNat - (o ++ [rdOf ByteArray.empty l i]).length = q := by simp; omega
        rw [this]
        simp [rdOf, hi]
      rw [e1]
      refine Ev.step (f := fun k => reefref15_Values.l0 k most (o ++ [rdOf ByteArray.empty l i]) ((i + 1 : Nat) : Int) a b c d e s l) (fun k => ?_) ?_
      · simp only [reefref15_Values.l0]
        rw [if_pos (by omega), if_pos h, if_pos (by omega), if_pos (by omega), wrap_of (by omega) (by omega)]
        rfl
      · have := ih (i + 1) (o ++ [rdOf ByteArray.empty l i]) (by omega) (by simp; omega)
        simpa using this
    · refine Ev.step (f := fun _ => some (o ++ (l.drop i).take (most.toNat - o.length))) (fun k => ?_) (Ev.now _)
      simp only [reefref15_Values.l0]
      rw [if_pos (by omega), if_neg h, show most.toNat - o.length = 0 by omega]
      simp
theorem values_is (a b : Int) (c : Bool) (d e : Int) (s : ByteArray) (l : List ByteArray) (hl : l.length ≤ 4096) (f most : Int) : Ev (fun k => reefref15_Values.f k a b c d e s l f most) ((fromV l f).take most.toNat) := by
  by_cases h : f < 0
  · refine Ev.congr (f := fun _ => some ((fromV l f).take most.toNat)) (fun k => ?_) (Ev.now _)
    simp [reefref15_Values.f, h, fromV, show ¬ (0 ≤ f ∧ f ≤ (l.length : Int)) from fun x => by omega]
  · obtain ⟨m, rfl⟩ : ∃ m : Nat, f = m := ⟨f.toNat, by omega⟩
    by_cases h2 : m ≤ l.length
    · refine Ev.congr (f := fun k => reefref15_Values.l0 k most [] m a b c d e s l) (fun k => ?_) ?_
      · simp only [reefref15_Values.f]; rw [if_neg h]
      · have := values_l0 most a b c d e s l hl (l.length - m) m [] (by omega) (by simp)
        have e : fromV l (m : Int) = l.drop m := by unfold fromV; rw [if_pos ⟨by omega, by omega⟩]; rfl
        rw [e]
        simpa using this
    · refine Ev.congr (f := fun k => reefref15_Values.l0 k most [] m a b c d e s l) (fun k => ?_) (Ev.step (f := fun _ => some []) (fun k => ?_) ?_)
      · simp only [reefref15_Values.f]; rw [if_neg h]
      · simp only [reefref15_Values.l0]
        rw [if_neg (by omega)]
      · have : (fromV l (m : Int)).take most.toNat = [] := by
          have e : fromV l (m : Int) = [] := by unfold fromV; rw [if_neg (fun x => by omega)]
          rw [e, List.take_nil]
        rw [this]; exact Ev.now _
theorem promise_is (a b : Int) (c : Bool) (d e : Int) (s : ByteArray) (l : List ByteArray) (hl : l.length ≤ 4096) (mon f : Int) : Ev (fun k => reefref15_Promise.f k a b c d e s l mon f) (mon, (l.length : Int), c, d, e, s, fromV l f) := by
  have h := values_is a b c d e s l hl f 4096
  rw [List.take_of_length_le (by have := fromV_len l f; omega)] at h
  exact Ev.congr (fun k => rfl) (Ev.bind h (Ev.now _))
theorem j2_ev (a b : Int) (c : Bool) (d e : Int) (s : ByteArray) (l : List ByteArray) (hl : l.length ≤ 4096) (f mon most : Int) : Ev (fun k => reeflaw15_AcceptDoes.j2 k f mon most false a b c d e s l a b c d e s l) true := by
  have pr : accept_Promise.f a b c d e s l mon f = some (mon, (l.length : Int), c, d, e, s, fromV l f) := by unfold accept_Promise.f; rw [if_pos (by omega)]
  have va : accept_Values.f a b c d e s l f most = some ((fromV l f).take most.toNat) := by unfold accept_Values.f; rw [if_pos (by omega)]
  have hf := fromV_len l f
  have ht : ((fromV l f).take most.toNat).length ≤ l.length := by rw [List.length_take]; omega
  refine Ev.step (f := ?f) (fun k => ?h) ?k
  case h =>
    simp only [reeflaw15_AcceptDoes.j2, pr, va, Bool.false_eq_true, if_false, Option.bind_some]
    exact rfl
  case k =>
    refine Ev.bind (promise_is a b c d e s l hl mon f) ?_
    simp only [beq_self_eq_true, Bool.and_true, Bool.and_self, if_true]
    refine Ev.bind (texts_self _ (by omega)) ?_
    simp only [if_true]
    refine Ev.bind (values_is a b c d e s l hl f most) ?_
    refine Ev.bind (texts_self _ (by omega)) ?_
    simp only [if_true]
    refine Ev.bind (same_self a b c d e s l (by omega)) ?_
    simp only [if_true]
    exact Ev.bind awake_ev (Ev.now _)
theorem j1_ev (a b : Int) (c : Bool) (d e : Int) (s : ByteArray) (l : List ByteArray) (hl : l.length ≤ 4096) (f mon most : Int) (l2 : List ByteArray) (h2 : l2.length < 9223372036854775807) : Ev (fun k => reeflaw15_AcceptDoes.j1 k f l2 mon most false a b c d e s l a b c d e s l) true := by
  refine Ev.step (f := ?f) (fun k => ?h) ?k
  case h =>
    simp only [reeflaw15_AcceptDoes.j1, Bool.false_eq_true, if_false]
    exact rfl
  case k =>
    obtain ⟨⟨a', b', c', d', e', s', l', n⟩, g1, g2, g3⟩ := learn_is a b c d e s l hl f l2 h2
    have g3 : l'.length ≤ 4096 := g3
    refine Ev.bind g1 (Ev.bind g2 (Ev.bind (same_self a' b' c' d' e' s' l' (by omega)) ?_))
    simp only [if_true, bne_self_eq_false]
    exact j2_ev a b c d e s l hl f mon most
theorem j0_ev (a b : Int) (c : Bool) (d e : Int) (s : ByteArray) (l : List ByteArray) (hl : l.length ≤ 4096) (x y v : Int) (s' : ByteArray) (f mon most : Int) (l2 : List ByteArray) (h2 : l2.length < 9223372036854775807) : Ev (fun k => reeflaw15_AcceptDoes.j0 k v s' f l2 mon most false a b c d e s l x y a b c d e s l) true := by
  refine Ev.step (f := ?f) (fun k => ?h) ?k
  case h =>
    simp only [reeflaw15_AcceptDoes.j0, Bool.false_eq_true, if_false]
    exact rfl
  case k =>
    obtain ⟨⟨a', b', c', d', e', s'', l', n⟩, g1, g2, g3⟩ := accept_is a b c d e s l hl x y v s'
    have g3 : l' = l := g3
    refine Ev.bind g1 (Ev.bind g2 (Ev.bind (same_self a' b' c' d' e' s'' l' (by rw [g3]; omega)) ?_))
    simp only [if_true, bne_self_eq_false]
    exact j1_ev a b c d e s l hl f mon most l2 h2
theorem does_ev (a b : Int) (c : Bool) (d e : Int) (s : ByteArray) (l : List ByteArray) (hl : l.length < 9223372036854775807) (x y v : Int) (s' : ByteArray) (f mon most : Int) (l2 : List ByteArray) (h2 : l2.length < 9223372036854775807) : Ev (fun k => reeflaw15_AcceptDoes.f k a b c d e s l x y v s' f l2 mon most) true := by
  obtain ⟨r, hr, hb⟩ := fit_ends l hl a b c d e s
  unfold reeflaw15_AcceptDoes.f
  refine Ev.bind hr ?_
  cases r with
  | false =>
    simp only [Bool.false_eq_true, if_false]
    exact Ev.bind awake_ev (Ev.now _)
  | true =>
    have hl := hb rfl
    obtain ⟨a', b', ok, h1, h2'⟩ := prepare_is a b c d e s l hl x y
    simp only [if_true, copy_is a b c d e s l hl, Option.bind_some, h1, h2']
    refine Ev.bind (same_self a' b' c d e s l (by omega)) ?_
    simp only [if_true, bne_self_eq_false]
    exact j0_ev a b c d e s l hl x y v s' f mon most l2 h2
end Go.Proofs.Ytkbdicedckmdkaa.Pure
