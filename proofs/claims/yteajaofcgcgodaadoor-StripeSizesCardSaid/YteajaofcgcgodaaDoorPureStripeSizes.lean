/- How many objects, and bytes of one, a size takes is the document's. -/
import Derived.Test.YteajaofcgcgodaaDoorPure0
import Derived.Test.YteajaofcgcgodaaDoorP8
import Derived.Test.YteajaofcgcgodaaDoorP10
import Derived.Test.YteajaofcgcgodaaDoorP11
import Derived.Test.YteajaofcgcgodaaDoorP27
namespace Go.Proofs.YteajaofcgcgodaaDoor.Pure
open Go.RowKit Go.Proofs.YteajaofcgcgodaaDoor.P Go.Proofs.YteajaofcgcgodaaDoorW.PrintWords Go.Proofs.YteajaofcgcgodaaDoorW.PrintLast Go.Proofs.YteajaofcgcgodaaDoorW.PrintMore
set_option linter.unusedVariables false
theorem rplace_nat {u c o : Nat} (h : Lay u c o) (x : Nat) (hx : x < 4096) : reefref28_Place.f u c o x = some (((pI u c (o / u) x : Nat) : Int), ((pO u c (o / u) x : Nat) : Int)) := by
  have e : reefref28_Place.f u c o x = if (x : Int) < 0 then some (0, 0) else if (x : Int) ≥ 4096 then some (0, 0) else stripe_find.f u c o x := rfl
  rw [e, if_neg (by omega), if_neg (by omega), find_nat h x (by omega)]
theorem Lay.okL {u c o : Nat} (h : Lay u c o) : okL u c o := by
  have hK := h.K
  have h3 : o / u ≤ o := Nat.div_le_self _ _
  refine ⟨by have := h.u1; omega, by have := h.c1; omega, ?_⟩
  rw [tdiv_nat, wrap_nat (by have := h.o64; omega)]
  omega
theorem fd_nat {u c o : Nat} (h : Lay u c o) (off i : Nat) (hx : off + i < 4096) : fdOf u c o off i = (((pI u c (o / u) (off + i) : Nat) : Int), ((pO u c (o / u) (off + i) : Nat) : Int)) := by
  unfold fdOf
  rw [← Int.natCast_add, wrap_nat (by omega), find_nat h (off + i) (by omega)]
  rfl
def oF (fd : Nat → Int × Int) : Nat → Nat → Int → Int
  | 0, _, n => n
  | d + 1, i, n => oF fd d (i + 1) (mx n (wrap64 ((fd i).1 + 1)))
def lF (fd : Nat → Int × Int) (ix : Int) : Nat → Nat → Int → Int
  | 0, _, n => n
  | d + 1, i, n => lF fd ix d (i + 1) (if (fd i).1 = ix then mx n (wrap64 ((fd i).2 + 1)) else n)
theorem mx_same (n a : Int) : mx (mx n a) a = mx n a := by
  unfold mx
  by_cases h : n < a
  · simp [h]
  · simp [h]
theorem mx_up (n a b : Int) (h : a ≤ b) : mx (mx n a) b = mx n b := by unfold mx; split <;> split <;> (repeat' split) <;> omega
theorem obj_pcs (fd : Nat → Int × Int) : ∀ (d i : Nat) (f : S51) (n : Int), i + d ≤ 4096 → (0 < f.f2 → f.f2 ≤ i) →
    (pcs fd d i f).foldl (fun n f => if n < wrap64 (f.f0 + 1) then wrap64 (f.f0 + 1) else n) n = oF fd d i (if 0 < f.f2 then mx n (wrap64 (f.f0 + 1)) else n) := by
  intro d
  induction d with
  | zero =>
    intro i f n _ _
    rw [pcs, oF]
    split
    · rfl
    · rfl
  | succ d ih =>
    intro i f n hi hf
    rw [pcs, oF]
    by_cases q : 0 < f.f2 ∧ (fd i).1 = f.f0 ∧ (fd i).2 = wrap64 (f.f1 + f.f2)
    · have hw : wrap64 (f.f2 + 1) = f.f2 + 1 := wrap_of (by omega) (by have := hf q.1; omega)
      rw [if_pos q, ih (i + 1) _ n (by omega) (fun _ => by show wrap64 (f.f2 + 1) ≤ _; rw [hw]; have := hf q.1; omega), if_pos (show 0 < wrap64 (f.f2 + 1) by rw [hw]; omega), if_pos q.1, q.2.1, mx_same]
    · rw [if_neg q, List.foldl_append]
      have hg : (0 : Int) < (⟨(fd i).1, (fd i).2, 1, (i : Int)⟩ : S51).f2 := by show (0 : Int) < 1; omega
      rw [ih (i + 1) ⟨(fd i).1, (fd i).2, 1, (i : Int)⟩ _ (by omega) (fun _ => by show (1 : Int) ≤ _; omega), if_pos hg]
      split
      · rfl
      · rfl
theorem lF_full (fd : Nat → Int × Int) (ix o : Int) (ho : o ≤ 64) : ∀ (d i : Nat), (∀ j, i ≤ j → j < i + d → 0 ≤ (fd j).2 ∧ (fd j).2 < o) → lF fd ix d i o = o := by
  intro d
  induction d with
  | zero => intro i _; rfl
  | succ d ih =>
    intro i h
    have hi := h i (Nat.le_refl _) (by omega)
    have hw : wrap64 ((fd i).2 + 1) = (fd i).2 + 1 := wrap_of (by omega) (by omega)
    rw [lF, hw]
    have : (if (fd i).1 = ix then mx o ((fd i).2 + 1) else o) = o := by unfold mx; split <;> (repeat' split) <;> omega
    rw [this]
    exact ih (i + 1) (fun j h1 h2 => h j (by omega) (by omega))
theorem len_pcs (fd : Nat → Int × Int) (ix o : Int) (ho : o ≤ 64) : ∀ (d i : Nat) (f : S51) (n : Int), i + d ≤ 4096 → (0 < f.f2 → f.f2 ≤ i ∧ 0 ≤ f.f1 ∧ f.f1 + f.f2 ≤ o) → n ≤ o → (∀ j, i ≤ j → j < i + d → 0 ≤ (fd j).2 ∧ (fd j).2 < o) →
    lenS o ix (pcs fd d i f) n = lF fd ix d i (if 0 < f.f2 then lenN ix n f else n) := by
  intro d
  induction d with
  | zero =>
    intro i f n _ _ _ _
    rw [pcs, lF]
    split
    · rw [lenS, lenS]
      split
      · rename_i h; exact h.symm
      · rfl
    · rfl
  | succ d ih =>
    intro i f n hi hf hn hfd
    have hj := hfd i (Nat.le_refl _) (by omega)
    have hw1 : wrap64 ((fd i).2 + 1) = (fd i).2 + 1 := wrap_of (by omega) (by omega)
    have hrest : ∀ j, i + 1 ≤ j → j < i + 1 + d → 0 ≤ (fd j).2 ∧ (fd j).2 < o := fun j h1 h2 => hfd j (by omega) (by omega)
    rw [pcs]
    by_cases q : 0 < f.f2 ∧ (fd i).1 = f.f0 ∧ (fd i).2 = wrap64 (f.f1 + f.f2)
    · obtain ⟨q0, q1, q2⟩ := q
      have hb := hf q0
      have hw : wrap64 (f.f2 + 1) = f.f2 + 1 := wrap_of (by omega) (by omega)
      have hw2 : wrap64 (f.f1 + f.f2) = f.f1 + f.f2 := wrap_of (by omega) (by omega)
      have hw3 : wrap64 (f.f1 + (f.f2 + 1)) = f.f1 + f.f2 + 1 := by rw [wrap_of (by omega) (by omega)]; omega
      have hw4 : wrap64 (f.f1 + f.f2 + 1) = f.f1 + f.f2 + 1 := wrap_of (by omega) (by omega)
      rw [hw2] at q2
      rw [if_pos ⟨q0, q1, by rw [hw2]; exact q2⟩, ih (i + 1) _ n (by omega) (fun _ => by show wrap64 (f.f2 + 1) ≤ _ ∧ 0 ≤ f.f1 ∧ f.f1 + wrap64 (f.f2 + 1) ≤ o; rw [hw]; omega) hn hrest, lF, if_pos (show 0 < wrap64 (f.f2 + 1) by rw [hw]; omega), if_pos q0]
      congr 1
      unfold lenN
      simp only [hw, hw2, hw3, q1, q2, hw4]
      by_cases e : f.f0 = ix
      · simp only [if_pos e]
        exact (mx_up n (f.f1 + f.f2) (f.f1 + f.f2 + 1) (by omega)).symm
      · simp only [if_neg e]
    · have hg : (0 : Int) < (⟨(fd i).1, (fd i).2, 1, (i : Int)⟩ : S51).f2 := by show (0 : Int) < 1; omega
      have hG : ∀ N, N ≤ o → lenS o ix (pcs fd d (i + 1) ⟨(fd i).1, (fd i).2, 1, (i : Int)⟩) N = lF fd ix (d + 1) i N := fun N hN => by
        rw [ih (i + 1) ⟨(fd i).1, (fd i).2, 1, (i : Int)⟩ N (by omega) (fun _ => by show (1 : Int) ≤ _ ∧ 0 ≤ (fd i).2 ∧ (fd i).2 + 1 ≤ o; omega) hN hrest, if_pos hg, lF]
        rfl
      rw [if_neg q]
      by_cases q0 : 0 < f.f2
      · have hb := hf q0
        have hw2 : wrap64 (f.f1 + f.f2) = f.f1 + f.f2 := wrap_of (by omega) (by omega)
        have hN : lenN ix n f ≤ o := by unfold lenN; rw [hw2]; (repeat' split) <;> omega
        rw [if_pos q0, if_pos q0]
        show lenS o ix (f :: pcs fd d (i + 1) ⟨(fd i).1, (fd i).2, 1, (i : Int)⟩) n = _
        rw [lenS]
        by_cases e : lenN ix n f = o
        · rw [if_pos e, e, lF_full fd ix o ho (d + 1) i hfd]
        · rw [if_neg e]
          exact hG _ hN
      · rw [if_neg q0, if_neg q0, List.nil_append]
        exact hG n hn
theorem robj_l0 {u c o : Nat} (h : Lay u c o) (size : Int) (m : Nat) (hm : ∀ x : Nat, (x : Int) < mn size 4096 ↔ x < m) (hm4 : m ≤ 4096) : ∀ (d x : Nat) (n : Int), x + d = m → Ev (fun k => reefref28_Objects.l0 k size n x u c o) (oF (fdOf u c o 0) d x n) := by
  intro d
  induction d with
  | zero =>
    intro x n hx
    refine Ev.step (f := fun _ => some n) (fun k => ?_) (Ev.now _)
    simp only [reefref28_Objects.l0]
    rw [if_neg (fun q => by have := (hm x).1 q; omega)]
  | succ d ih =>
    intro x n hx
    have hw : wrap64 ((x : Int) + 1) = ((x + 1 : Nat) : Int) := by rw [wrap_of (by omega) (by omega)]; omega
    rw [oF, show (0 : Int) = ((0 : Nat) : Int) from rfl, fd_nat h 0 x (by omega), Nat.zero_add]
    refine Ev.step (f := fun k => reefref28_Objects.l0 k size (mx n (wrap64 (((pI u c (o / u) x : Nat) : Int) + 1))) ((x + 1 : Nat) : Int) u c o) (fun k => ?_) (ih (x + 1) _ (by omega))
    simp only [reefref28_Objects.l0, rplace_nat h x (show x < 4096 by omega), Option.bind_some, hw]
    rw [if_pos ((hm x).2 (by omega))]
theorem rlen_l0 {u c o : Nat} (h : Lay u c o) (size ix : Int) (m : Nat) (hm : ∀ x : Nat, (x : Int) < mn size 4096 ↔ x < m) (hm4 : m ≤ 4096) : ∀ (d x : Nat) (n : Int), x + d = m → Ev (fun k => reefref28_Length.l0 k size ix n x u c o) (lF (fdOf u c o 0) ix d x n) := by
  intro d
  induction d with
  | zero =>
    intro x n hx
    refine Ev.step (f := fun _ => some n) (fun k => ?_) (Ev.now _)
    simp only [reefref28_Length.l0]
    rw [if_neg (fun q => by have := (hm x).1 q; omega)]
  | succ d ih =>
    intro x n hx
    have hw : wrap64 ((x : Int) + 1) = ((x + 1 : Nat) : Int) := by rw [wrap_of (by omega) (by omega)]; omega
    rw [lF, show (0 : Int) = ((0 : Nat) : Int) from rfl, fd_nat h 0 x (by omega), Nat.zero_add]
    by_cases e : ((pI u c (o / u) x : Nat) : Int) = ix
    · rw [if_pos e]
      refine Ev.step (f := fun k => reefref28_Length.l0 k size ix (mx n (wrap64 (((pO u c (o / u) x : Nat) : Int) + 1))) ((x + 1 : Nat) : Int) u c o) (fun k => ?_) (ih (x + 1) _ (by omega))
      simp only [reefref28_Length.l0, rplace_nat h x (show x < 4096 by omega), Option.bind_some, hw]
      rw [if_pos ((hm x).2 (by omega)), if_pos e]
    · rw [if_neg e]
      refine Ev.step (f := fun k => reefref28_Length.l0 k size ix n ((x + 1 : Nat) : Int) u c o) (fun k => ?_) (ih (x + 1) _ (by omega))
      simp only [reefref28_Length.l0, rplace_nat h x (show x < 4096 by omega), Option.bind_some, hw]
      rw [if_pos ((hm x).2 (by omega)), if_neg e]
theorem size_nat (size : Int) : ∃ m : Nat, mn (mx size 0) 4096 = (m : Int) ∧ m ≤ 4096 ∧ ∀ x : Nat, (x : Int) < mn size 4096 ↔ x < m := by
  obtain ⟨m, h1, h2⟩ := bounded_nat size
  refine ⟨m, h1, h2, fun x => ?_⟩
  unfold mn mx at h1
  unfold mn
  (repeat' split at h1) <;> (repeat' split) <;> omega
theorem fd_off {u c o : Nat} (h : Lay u c o) (m : Nat) (hm : m ≤ 4096) : ∀ j, 0 ≤ j → j < 0 + m → 0 ≤ (fdOf u c o 0 j).2 ∧ (fdOf u c o 0 j).2 < (o : Int) := fun j _ hj => by
  rw [show (0 : Int) = ((0 : Nat) : Int) from rfl, fd_nat h 0 j (by omega)]
  have := pO_lt u c (o / u) (0 + j) h.u1 h.K
  rw [h.Ku] at this
  omega
theorem sizes_ev (u c o size ix : Int) : Ev (fun k => reeflaw28_StripeSizes.f k u c o size ix) true := by
  unfold reeflaw28_StripeSizes.f
  obtain ⟨t, ht, _, hfit⟩ := fit_cases u c o
  rw [ht]
  simp only [Option.bind_some]
  cases t with
  | false =>
    simp only [Bool.false_eq_true, if_false]
    exact Ev.bind awake_ev (Ev.now _)
  | true =>
    obtain ⟨u, c, o, rfl, rfl, rfl, h⟩ := hfit rfl
    obtain ⟨m, hm, hm4, hx⟩ := size_nat size
    have e1 : stripe_Objects.f u c o size = some (oF (fdOf u c o 0) m 0 0) := by
      unfold stripe_Objects.f
      rw [if_pos h.okL, hm, Int.toNat_natCast]
      unfold objS
      rw [obj_pcs _ m 0 z51 0 (by omega) (fun q => by simp [z51] at q), if_neg (by simp [z51])]
    have e2 : stripe_Length.f u c o size ix = some (lF (fdOf u c o 0) ix m 0 0) := by
      unfold stripe_Length.f
      rw [if_pos h.okL, hm, Int.toNat_natCast, len_pcs _ ix o (by have := h.o64; omega) m 0 z51 0 (by omega) (fun q => by simp [z51] at q) (by omega) (fd_off h m hm4), if_neg (by simp [z51])]
    simp only [if_true, e1, e2, Option.bind_some]
    refine Ev.bind (g := fun k => reefref28_Objects.f k u c o size) (robj_l0 h size m hx hm4 m 0 0 (by omega)) ?_
    simp only [if_true]
    refine Ev.bind (g := fun k => reefref28_Length.f k u c o size ix) (rlen_l0 h size ix m hx hm4 m 0 0 (by omega)) ?_
    simp only [if_true]
    exact Ev.bind awake_ev (Ev.now _)
end Go.Proofs.YteajaofcgcgodaaDoor.Pure
