/- After is the least text behind all texts with a beginning. -/
import Derived.Test.YtcheinjlgojepaaDoorOfreeflaw02CodeAfter
namespace Go.Proofs.YtcheinjlgojepaaDoor.Pure
open Go.RowKit Go.Proofs.YtcheinjlgojepaaDoor.P Go.Proofs.YtcheinjlgojepaaDoorW.PrintWords Go.Proofs.YtcheinjlgojepaaDoorW.PrintLast Go.Proofs.YtcheinjlgojepaaDoorW.PrintMore
set_option linter.unusedVariables false
set_option linter.unusedSimpArgs false
/-- A text's place behind all that begin with its first n bytes, if there is one. -/
def aftL (L : List UInt8) : Nat → List UInt8 × Bool
  | 0 => ([], false)
  | n + 1 => if (L.getD n 0) = 255 then aftL L n else (L.take n ++ [L.getD n 0 + 1], true)
theorem getD_get (l : List UInt8) (n : Nat) (h : n < l.length) : l.getD n 0 = l[n] := by rw [List.getD_eq_getElem?_getD, List.getElem?_eq_getElem h]; rfl
theorem bt_getD (s : ByteArray) (n : Nat) (h : n < s.size) : bt s (n : Int) = ((s.data.toList.getD n 0).toNat : Int) := by
  unfold bt
  rw [dif_pos (by simpa using h)]
  have hn : n < s.data.toList.length := by rw [Array.length_toList]; exact h
  rw [getD_get _ _ hn]
  rfl
theorem wrap_p (n : Nat) (h : n < 9223372036854775807) : wrap64 (((n + 1 : Nat) : Int) - 1) = (n : Int) := by unfold wrap64; omega
theorem byte255 (b : UInt8) : ((b.toNat : Int) = 255) ↔ b = 255 := by
  constructor
  · intro h; exact UInt8.toNat_inj.1 (by show b.toNat = 255; omega)
  · rintro rfl; rfl
theorem byte_succ (b : UInt8) : UInt8.ofNat (((b.toNat : Int) + 1) % 256).toNat = b + 1 := by
  apply UInt8.toNat_inj.1
  have := b.toNat_lt
  rw [UInt8.toNat_ofNat', UInt8.toNat_add]
  show _ = (b.toNat + 1) % 256
  omega
theorem after_ev (s : ByteArray) (hs : s.size ≤ 140737488351232) : ∀ n : Nat, n ≤ s.size → ∃ r : ByteArray, r.toList = (aftL s.data.toList n).1 ∧ Ev (fun k => code_After.l0 k s (n : Int)) (r, (aftL s.data.toList n).2) := by
  intro n
  induction n with
  | zero =>
    intro _
    refine ⟨⟨#[]⟩, by rw [ByteArray.toList_eq]; rfl, Ev.step (f := fun _ => some ((⟨#[]⟩ : ByteArray), false)) (fun k => ?_) (Ev.now _)⟩
    simp only [code_After.l0]
    rw [if_neg (by omega), if_pos (by omega)]
  | succ n ih =>
    intro hn
    have hb := bt_getD s n (by omega)
    have w := wrap_p n (by omega)
    rw [aftL]
    by_cases q : s.data.toList.getD n 0 = 255
    · rw [if_pos q]
      obtain ⟨r, h1, h2⟩ := ih (by omega)
      refine ⟨r, h1, Ev.step (f := fun k => code_After.l0 k s (n : Int)) (fun k => ?_) h2⟩
      have hq : bt s (n : Int) = 255 := by rw [hb]; exact (byte255 _).2 q
      simp only [code_After.l0, w]
      clear w
      rw [if_pos (by omega), if_pos (by omega), if_pos (by omega), if_pos hq]
    · rw [if_neg q]
      have hq : ¬ bt s (n : Int) = 255 := by rw [hb]; exact fun z => q ((byte255 _).1 z)
      have hsz : (s.extract 0 ((n : Int)).toNat).size + (strOfNums [(bt s (n : Int) + 1) % 256]).size ≤ 9223372036854775807 := by
        rw [strOfNums_size, ByteArray.size_extract, List.length_singleton]; omega
      refine ⟨s.extract 0 ((n : Int)).toNat ++ strOfNums [(bt s (n : Int) + 1) % 256], ?_, Ev.step (f := fun _ => some (s.extract 0 ((n : Int)).toNat ++ strOfNums [(bt s (n : Int) + 1) % 256], true)) (fun k => ?_) (Ev.now _)⟩
      · rw [ByteArray.toList_eq, ByteArray.data_append, Array.toList_append, strOfNums_data, Int.toNat_natCast, Lib.extract_data, Nat.sub_zero, List.drop_zero, hb, List.map_singleton, byte_succ]
      · simp only [code_After.l0, w, Option.bind_some]
        clear w
        rw [if_pos (by omega), if_pos (by omega), if_pos (by omega), if_neg hq, if_neg (by omega), if_pos (by omega), if_pos hsz]
theorem rafter_eq (s : ByteArray) : ∀ (k : Nat) (n : Int), reefref02_After.l0 k s n = code_After.l0 k s n
  | 0, n => rfl
  | k + 1, n => by
    simp only [reefref02_After.l0, code_After.l0, rafter_eq s k]

theorem less_nil (l : List UInt8) : Op.bytesLess l [] = false := by cases l <;> rfl
theorem less_cons (a b : UInt8) (x y : List UInt8) : Op.bytesLess (a :: x) (b :: y) = (decide (a < b) || (a == b && Op.bytesLess x y)) := rfl
/-- What a run of 255 lies below begins with it. -/
theorem run_255 : ∀ (m : Nat) (t : List UInt8), Op.bytesLess t (List.replicate m 255) = false ↔ (List.replicate m 255).isPrefixOf t = true
  | 0, t => by simp [less_nil]
  | m + 1, [] => by simp [List.replicate_succ, Op.bytesLess]
  | m + 1, x :: t => by
    rw [List.replicate_succ, less_cons, List.isPrefixOf_cons_cons]
    by_cases hx : x = 255
    · subst hx
      have := run_255 m t
      simp only [show ¬ ((255 : UInt8) < 255) from by decide, decide_false, Bool.false_or, beq_self_eq_true, Bool.true_and]
      exact this
    · have h1 : x < 255 := by
        rw [UInt8.lt_iff_toNat_lt]
        have := x.toNat_lt
        have h2 : x.toNat ≠ 255 := fun h => hx (UInt8.toNat_inj.1 h)
        show x.toNat < 255
        omega
      have h2 : ((255 : UInt8) == x) = false := beq_eq_false_iff_ne.2 (fun h => hx h.symm)
      simp [h1, h2]
theorem succ_lt (c x : UInt8) (hc : c ≠ 255) : (x < c + 1 ↔ x < c ∨ x = c) := by
  have h1 := c.toNat_lt
  have h2 : c.toNat ≠ 255 := fun h => hc (UInt8.toNat_inj.1 h)
  have h3 : (c + 1).toNat = c.toNat + 1 := by
    rw [UInt8.toNat_add]
    show (c.toNat + 1) % 256 = _
    omega
  rw [UInt8.lt_iff_toNat_lt, UInt8.lt_iff_toNat_lt, h3, ← UInt8.toNat_inj]
  omega
theorem aft_bounds (c : UInt8) (hc : c ≠ 255) (m : Nat) : ∀ (p t : List UInt8), (Op.bytesLess t (p ++ c :: List.replicate m 255) = false ∧ Op.bytesLess t (p ++ [c + 1]) = true) ↔ (p ++ c :: List.replicate m 255).isPrefixOf t = true
  | [], [] => by simp [Op.bytesLess]
  | [], x :: t => by
    rw [List.nil_append, List.nil_append, less_cons, less_cons, less_nil, List.isPrefixOf_cons_cons, Bool.and_false, Bool.or_false]
    have h := succ_lt c x hc
    have hr := run_255 m t
    by_cases hx : x = c
    · subst hx
      have e1 : ¬ (x < x) := UInt8.lt_irrefl x
      have e2 : x < x + 1 := h.2 (.inr rfl)
      simp only [e1, e2, decide_false, decide_true, Bool.false_or, beq_self_eq_true, Bool.true_and, and_true]
      exact hr
    · have e1 : (c == x) = false := beq_eq_false_iff_ne.2 (fun z => hx z.symm)
      have e2 : (x == c) = false := beq_eq_false_iff_ne.2 hx
      simp only [e1, e2, Bool.false_and, Bool.or_false, Bool.false_eq_true, iff_false, not_and, decide_eq_false_iff_not, decide_eq_true_iff]
      intro g1 g2
      rcases h.1 g2 with g | g
      · exact g1 g
      · exact hx g
  | y :: p, [] => by simp [Op.bytesLess]
  | y :: p, x :: t => by
    rw [List.cons_append, List.cons_append, less_cons, less_cons, List.isPrefixOf_cons_cons]
    have ih := aft_bounds c hc m p t
    by_cases hx : x = y
    · subst hx
      simp only [show ¬ (x < x) from UInt8.lt_irrefl x, decide_false, Bool.false_or, beq_self_eq_true, Bool.true_and]
      exact ih
    · have e1 : (y == x) = false := beq_eq_false_iff_ne.2 (fun z => hx z.symm)
      have e2 : (x == y) = false := beq_eq_false_iff_ne.2 hx
      simp only [e1, e2, Bool.false_and, Bool.or_false, Bool.false_eq_true, iff_false, not_and, decide_eq_false_iff_not, decide_eq_true_iff]
      exact fun g1 g2 => g1 g2
/-- What aftL is, of a text whose end from n on is a run of 255. -/
theorem aftL_spec (L : List UInt8) : ∀ n : Nat, n ≤ L.length → L.drop n = List.replicate (L.length - n) 255 →
    ((aftL L n).2 = false ∧ L = List.replicate L.length 255) ∨ ((aftL L n).2 = true ∧ ∃ p c m, L = p ++ c :: List.replicate m 255 ∧ c ≠ 255 ∧ (aftL L n).1 = p ++ [c + 1]) := by
  intro n
  induction n with
  | zero =>
    intro _ h
    left
    refine ⟨rfl, ?_⟩
    rw [List.drop_zero, Nat.sub_zero] at h
    exact h
  | succ n ih =>
    intro hn h
    have hlt : n < L.length := by omega
    have hd := List.drop_eq_getElem_cons hlt
    rw [aftL, getD_get _ _ hlt]
    by_cases q : L[n] = 255
    · rw [if_pos q]
      refine ih (by omega) ?_
      rw [hd, h, q, show L.length - n = (L.length - (n + 1)) + 1 by omega, List.replicate_succ]
    · rw [if_neg q]
      right
      refine ⟨rfl, L.take n, L[n], L.length - (n + 1), ?_, q, rfl⟩
      rw [← h, ← hd, List.take_append_drop]
/-- The law, of lists. -/
theorem after_law (L t : List UInt8) :
    (Op.bytesLess t L = true → L.isPrefixOf t = false) ∧ (Op.bytesLess t L = false → (aftL L L.length).2 = true → L.isPrefixOf t = Op.bytesLess t (aftL L L.length).1) ∧ (Op.bytesLess t L = false → (aftL L L.length).2 = false → L.isPrefixOf t = true) := by
  rcases aftL_spec L L.length (Nat.le_refl _) (by simp) with ⟨h1, h2⟩ | ⟨h1, p, c, m, h2, h3, h4⟩
  · rw [h1]
    have hr := run_255 L.length t
    rw [← h2] at hr
    refine ⟨fun h => ?_, fun _ h => absurd h (by decide), fun h _ => hr.1 h⟩
    cases hp : L.isPrefixOf t with
    | false => rfl
    | true => rw [hr.2 hp] at h; exact absurd h (by decide)
  · have hb := aft_bounds c h3 m p t
    rw [← h2, ← h4] at hb
    rw [h1]
    refine ⟨fun h => ?_, fun h _ => ?_, fun _ h => absurd h (by decide)⟩
    · cases hp : L.isPrefixOf t with
      | false => rfl
      | true => rw [(hb.2 hp).1] at h; exact absurd h (by decide)
    · cases hp : L.isPrefixOf t with
      | true => rw [(hb.2 hp).2]
      | false =>
        cases hq : Op.bytesLess t (aftL L L.length).1 with
        | false => rfl
        | true => rw [hb.1 ⟨h, hq⟩] at hp; exact absurd hp (by decide)
theorem awake_ev : Ev (fun k => reeflaw02_awake.f k) true := Ev.of (k := 14) (fun k => reeflaw02_awake.mono k) (by decide +kernel)
theorem prefix_take : ∀ (L t : List UInt8), L.isPrefixOf t = (decide (L.length ≤ t.length) && (t.take L.length == L))
  | [], t => by simp
  | a :: L, [] => by simp
  | a :: L, b :: t => by
    rw [List.isPrefixOf_cons_cons, prefix_take L t, List.length_cons, List.length_cons, List.take_succ_cons]
    rw [Bool.eq_iff_iff]
    simp only [Bool.and_eq_true, beq_iff_eq, decide_eq_true_eq, List.cons.injEq]
    constructor
    · rintro ⟨h1, h2, h3⟩; exact ⟨by omega, h1.symm, h3⟩
    · rintro ⟨h1, h2, h3⟩; exact ⟨h2.symm, by omega, h3⟩
theorem codeAfter_pure (a0 a1 : ByteArray) (h0 : a0.size ≤ 140737488351232) (h1 : a1.size ≤ 140737488351232) : Ev (fun k => reeflaw02_CodeAfter.f k a0 a1) true := by
  obtain ⟨r, hr, he⟩ := after_ev a0 h0 a0.size (Nat.le_refl _)
  have he1 : Ev (fun k => code_After.f k a0) (r, (aftL a0.data.toList a0.size).2) := he
  have he2 : Ev (fun k => reefref02_After.f k a0) (r, (aftL a0.data.toList a0.size).2) := Ev.congr (fun k => by unfold reefref02_After.f; exact rafter_eq a0 k _) he
  have hz : a0.data.toList.length = a0.size := Array.length_toList
  have hz1 : a1.data.toList.length = a1.size := Array.length_toList
  obtain ⟨l1, l2, l3⟩ := after_law a0.data.toList a1.data.toList
  rw [hz] at l2 l3
  have hp := prefix_take a0.data.toList a1.data.toList
  rw [hz, hz1] at hp
  have ht0 : a0.toList = a0.data.toList := ByteArray.toList_eq a0
  have ht1 : a1.toList = a1.data.toList := ByteArray.toList_eq a1
  have hx : (a1.extract 0 ((a0.size : Int) : Int).toNat).toList = a1.data.toList.take a0.size := by
    rw [ByteArray.toList_eq, Int.toNat_natCast, Lib.extract_data, Nat.sub_zero, List.drop_zero]
  unfold reeflaw02_CodeAfter.f
  refine Ev.bind he1 (Ev.bind he2 ?_)
  simp only [if_true, bne_self_eq_false, Bool.false_eq_true, if_false, hx, ht0, ht1, hr]
  generalize (aftL a0.data.toList a0.size).2 = ok at l2 l3
  generalize (aftL a0.data.toList a0.size).1 = A at l2
  by_cases hge : a0.size ≤ a1.size
  · rw [decide_eq_true hge, Bool.true_and] at hp
    rw [hp] at l1 l2 l3
    have g1 : ((a1.size : Int) ≥ (a0.size : Int)) := by omega
    have g2 : (0 ≤ (a0.size : Int)) := by omega
    have g3 : ((a0.size : Int) ≤ (a1.size : Int)) := by omega
    simp only [if_pos g1, if_pos g2, if_pos g3]
    cases hlt : Op.bytesLess a1.data.toList a0.data.toList with
    | true =>
      rw [l1 hlt]
      simp only [if_true, beq_self_eq_true]
      exact Ev.bind awake_ev (Ev.now _)
    | false =>
      simp only [Bool.false_eq_true, if_false]
      cases ok with
      | true =>
        rw [l2 hlt rfl]
        simp only [if_true, beq_self_eq_true]
        exact Ev.bind awake_ev (Ev.now _)
      | false =>
        rw [l3 hlt rfl]
        simp only [Bool.false_eq_true, if_false, beq_self_eq_true, if_true]
        exact Ev.bind awake_ev (Ev.now _)
  · rw [decide_eq_false hge, Bool.false_and] at hp
    rw [hp] at l1 l2 l3
    have g1 : ¬ ((a1.size : Int) ≥ (a0.size : Int)) := by omega
    simp only [if_neg g1]
    cases hlt : Op.bytesLess a1.data.toList a0.data.toList with
    | true =>
      simp only [if_true, beq_self_eq_true]
      exact Ev.bind awake_ev (Ev.now _)
    | false =>
      simp only [Bool.false_eq_true, if_false]
      cases ok with
      | true =>
        rw [← l2 hlt rfl]
        simp only [if_true, beq_self_eq_true]
        exact Ev.bind awake_ev (Ev.now _)
      | false => exact absurd (l3 hlt rfl) (by decide)
end Go.Proofs.YtcheinjlgojepaaDoor.Pure
