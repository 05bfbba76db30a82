/- A greater size takes no fewer objects or bytes, and all objects together hold it. -/
import Derived.Test.YteajaofcgcgodaaDoorPure0
import Derived.Test.YteajaofcgcgodaaDoorP27
namespace Go.Proofs.YteajaofcgcgodaaDoor.Pure
open Go.RowKit Go.Proofs.YteajaofcgcgodaaDoor.P Go.Proofs.YteajaofcgcgodaaDoorW.PrintWords Go.Proofs.YteajaofcgcgodaaDoorW.PrintLast Go.Proofs.YteajaofcgcgodaaDoorW.PrintMore
set_option linter.unusedVariables false
theorem Lay.okL {u c o : Nat} (h : Lay u c o) : okL u c o := by
  have hK := h.K
  have h3 : o / u ≤ o := Nat.div_le_self _ _
  refine ⟨by have := h.u1; omega, by have := h.c1; omega, ?_⟩
  rw [tdiv_nat, wrap_nat (by have := h.o64; omega)]
  omega
theorem fd_nat {u c o : Nat} (h : Lay u c o) (off i : Nat) (hx : off + i < 4096) : fdOf u c o off i = (((pI u c (o / u) (off + i) : Nat) : Int), ((pO u c (o / u) (off + i) : Nat) : Int)) := by
  unfold fdOf
  rw [← Int.natCast_add, wrap_nat (by omega), find_nat h (off + i) (by omega)]
  rfl
def oF (fd : Nat → Int × Int) : Nat → Nat → Int → Int
  | 0, _, n => n
  | d + 1, i, n => oF fd d (i + 1) (mx n (wrap64 ((fd i).1 + 1)))
def lF (fd : Nat → Int × Int) (ix : Int) : Nat → Nat → Int → Int
  | 0, _, n => n
  | d + 1, i, n => lF fd ix d (i + 1) (if (fd i).1 = ix then mx n (wrap64 ((fd i).2 + 1)) else n)
theorem mx_same (n a : Int) : mx (mx n a) a = mx n a := by
  unfold mx
  by_cases h : n < a
  · simp [h]
  · simp [h]
theorem mx_up (n a b : Int) (h : a ≤ b) : mx (mx n a) b = mx n b := by unfold mx; split <;> split <;> (repeat' split) <;> omega
theorem obj_pcs (fd : Nat → Int × Int) : ∀ (d i : Nat) (f : S51) (n : Int), i + d ≤ 4096 → (0 < f.f2 → f.f2 ≤ i) →
    (pcs fd d i f).foldl (fun n f => if n < wrap64 (f.f0 + 1) then wrap64 (f.f0 + 1) else n) n = oF fd d i (if 0 < f.f2 then mx n (wrap64 (f.f0 + 1)) else n) := by
  intro d
  induction d with
  | zero =>
    intro i f n _ _
    rw [pcs, oF]
    split
    · rfl
    · rfl
  | succ d ih =>
    intro i f n hi hf
    rw [pcs, oF]
    by_cases q : 0 < f.f2 ∧ (fd i).1 = f.f0 ∧ (fd i).2 = wrap64 (f.f1 + f.f2)
    · have hw : wrap64 (f.f2 + 1) = f.f2 + 1 := wrap_of (by omega) (by have := hf q.1; omega)
      rw [if_pos q, ih (i + 1) _ n (by omega) (fun _ => by show wrap64 (f.f2 + 1) ≤ _; rw [hw]; have := hf q.1; omega), if_pos (show 0 < wrap64 (f.f2 + 1) by rw [hw]; omega), if_pos q.1, q.2.1, mx_same]
    · rw [if_neg q, List.foldl_append]
      have hg : (0 : Int) < (⟨(fd i).1, (fd i).2, 1, (i : Int)⟩ : S51).f2 := by show (0 : Int) < 1; omega
      rw [ih (i + 1) ⟨(fd i).1, (fd i).2, 1, (i : Int)⟩ _ (by omega) (fun _ => by show (1 : Int) ≤ _; omega), if_pos hg]
      split
      · rfl
      · rfl
theorem lF_full (fd : Nat → Int × Int) (ix o : Int) (ho : o ≤ 64) : ∀ (d i : Nat), (∀ j, i ≤ j → j < i + d → 0 ≤ (fd j).2 ∧ (fd j).2 < o) → lF fd ix d i o = o := by
  intro d
  induction d with
  | zero => intro i _; rfl
  | succ d ih =>
    intro i h
    have hi := h i (Nat.le_refl _) (by omega)
    have hw : wrap64 ((fd i).2 + 1) = (fd i).2 + 1 := wrap_of (by omega) (by omega)
    rw [lF, hw]
    have : (if (fd i).1 = ix then mx o ((fd i).2 + 1) else o) = o := by unfold mx; split <;> (repeat' split) <;> omega
    rw [this]
    exact ih (i + 1) (fun j h1 h2 => h j (by omega) (by omega))
theorem len_pcs (fd : Nat → Int × Int) (ix o : Int) (ho : o ≤ 64) : ∀ (d i : Nat) (f : S51) (n : Int), i + d ≤ 4096 → (0 < f.f2 → f.f2 ≤ i ∧ 0 ≤ f.f1 ∧ f.f1 + f.f2 ≤ o) → n ≤ o → (∀ j, i ≤ j → j < i + d → 0 ≤ (fd j).2 ∧ (fd j).2 < o) →
    lenS o ix (pcs fd d i f) n = lF fd ix d i (if 0 < f.f2 then lenN ix n f else n) := by
  intro d
  induction d with
  | zero =>
    intro i f n _ _ _ _
    rw [pcs, lF]
    split
    · rw [lenS, lenS]
      split
      · rename_i h; exact h.symm
      · rfl
    · rfl
  | succ d ih =>
    intro i f n hi hf hn hfd
    have hj := hfd i (Nat.le_refl _) (by omega)
    have hw1 : wrap64 ((fd i).2 + 1) = (fd i).2 + 1 := wrap_of (by omega) (by omega)
    have hrest : ∀ j, i + 1 ≤ j → j < i + 1 + d → 0 ≤ (fd j).2 ∧ (fd j).2 < o := fun j h1 h2 => hfd j (by omega) (by omega)
    rw [pcs]
    by_cases q : 0 < f.f2 ∧ (fd i).1 = f.f0 ∧ (fd i).2 = wrap64 (f.f1 + f.f2)
    · obtain ⟨q0, q1, q2⟩ := q
      have hb := hf q0
      have hw : wrap64 (f.f2 + 1) = f.f2 + 1 := wrap_of (by omega) (by omega)
      have hw2 : wrap64 (f.f1 + f.f2) = f.f1 + f.f2 := wrap_of (by omega) (by omega)
      have hw3 : wrap64 (f.f1 + (f.f2 + 1)) = f.f1 + f.f2 + 1 := by rw [wrap_of (by omega) (by omega)]; omega
      have hw4 : wrap64 (f.f1 + f.f2 + 1) = f.f1 + f.f2 + 1 := wrap_of (by omega) (by omega)
      rw [hw2] at q2
      rw [if_pos ⟨q0, q1, by rw [hw2]; exact q2⟩, ih (i + 1) _ n (by omega) (fun _ => by show wrap64 (f.f2 + 1) ≤ _ ∧ 0 ≤ f.f1 ∧ f.f1 + wrap64 (f.f2 + 1) ≤ o; rw [hw]; omega) hn hrest, lF, if_pos (show 0 < wrap64 (f.f2 + 1) by rw [hw]; omega), if_pos q0]
      congr 1
      unfold lenN
      simp only [hw, hw2, hw3, q1, q2, hw4]
      by_cases e : f.f0 = ix
      · simp only [if_pos e]
        exact (mx_up n (f.f1 + f.f2) (f.f1 + f.f2 + 1) (by omega)).symm
      · simp only [if_neg e]
    · have hg : (0 : Int) < (⟨(fd i).1, (fd i).2, 1, (i : Int)⟩ : S51).f2 := by show (0 : Int) < 1; omega
      have hG : ∀ N, N ≤ o → lenS o ix (pcs fd d (i + 1) ⟨(fd i).1, (fd i).2, 1, (i : Int)⟩) N = lF fd ix (d + 1) i N := fun N hN => by
        rw [ih (i + 1) ⟨(fd i).1, (fd i).2, 1, (i : Int)⟩ N (by omega) (fun _ => by show (1 : Int) ≤ _ ∧ 0 ≤ (fd i).2 ∧ (fd i).2 + 1 ≤ o; omega) hN hrest, if_pos hg, lF]
        rfl
      rw [if_neg q]
      by_cases q0 : 0 < f.f2
      · have hb := hf q0
        have hw2 : wrap64 (f.f1 + f.f2) = f.f1 + f.f2 := wrap_of (by omega) (by omega)
        have hN : lenN ix n f ≤ o := by unfold lenN; rw [hw2]; (repeat' split) <;> omega
        rw [if_pos q0, if_pos q0]
        show lenS o ix (f :: pcs fd d (i + 1) ⟨(fd i).1, (fd i).2, 1, (i : Int)⟩) n = _
        rw [lenS]
        by_cases e : lenN ix n f = o
        · rw [if_pos e, e, lF_full fd ix o ho (d + 1) i hfd]
        · rw [if_neg e]
          exact hG _ hN
      · rw [if_neg q0, if_neg q0, List.nil_append]
        exact hG n hn
theorem fd_off {u c o : Nat} (h : Lay u c o) (m : Nat) (hm : m ≤ 4096) : ∀ j, 0 ≤ j → j < 0 + m → 0 ≤ (fdOf u c o 0 j).2 ∧ (fdOf u c o 0 j).2 < (o : Int) := fun j _ hj => by
  rw [show (0 : Int) = ((0 : Nat) : Int) from rfl, fd_nat h 0 j (by omega)]
  have := pO_lt u c (o / u) (0 + j) h.u1 h.K
  rw [h.Ku] at this
  omega
theorem bk_up (u c K i f g : Nat) (hu : 0 < u) (hc : 0 < c) (h : f ≤ g) : bk u c K i f ≤ bk u c K i g := by
  unfold bk
  have h1 : f / u ≤ g / u := Nat.div_le_div_right h
  by_cases e : f / u = g / u
  · rw [e]
    have a1 := Nat.div_add_mod f u
    have a2 := Nat.div_add_mod g u
    rw [e] at a1
    omega
  · have h2 : f / u + 1 ≤ g / u := by omega
    have h4 : f % u < u := Nat.mod_lt _ hu
    have h5 : (i / c * K + f / u) * c + i % c + 1 ≤ (i / c * K + g / u) * c + i % c := by
      have := Nat.mul_le_mul_right c (show i / c * K + f / u + 1 ≤ i / c * K + g / u by omega)
      rw [Nat.add_mul (i / c * K + f / u) 1 c, Nat.one_mul] at this
      omega
    have h6 := Nat.mul_le_mul_right u h5
    rw [Nat.add_mul _ 1 u, Nat.one_mul] at h6
    omega
theorem pO_up (u c K x y : Nat) (hu : 0 < u) (hc : 0 < c) (h : x < y) (e : pI u c K x = pI u c K y) : pO u c K x < pO u c K y := by
  apply Nat.lt_of_not_le
  intro q
  have := bk_up u c K (pI u c K x) _ _ hu hc q
  rw [bk_pl u c K x hu hc, e, bk_pl u c K y hu hc] at this
  omega
def lM (u c K i : Nat) : Nat → Nat
  | 0 => 0
  | a + 1 => if pI u c K a = i then max (lM u c K i a) (pO u c K a + 1) else lM u c K i a
def oM (u c K : Nat) : Nat → Nat
  | 0 => 0
  | a + 1 => max (oM u c K a) (pI u c K a + 1)
theorem lM_le (u c K i f : Nat) : ∀ a, (∀ x, x < a → pI u c K x = i → pO u c K x < f) → lM u c K i a ≤ f := by
  intro a
  induction a with
  | zero => intro _; exact Nat.zero_le _
  | succ a ih =>
    intro h
    have h1 := ih (fun x hx => h x (by omega))
    rw [lM]
    split
    · have := h a (by omega) ‹_›
      omega
    · exact h1
theorem lM_mono (u c K i a : Nat) : ∀ d, lM u c K i a ≤ lM u c K i (a + d) := by
  intro d
  induction d with
  | zero => exact Nat.le_refl _
  | succ d ih =>
    rw [show a + (d + 1) = a + d + 1 from rfl, lM]
    split <;> omega
theorem oM_mono (u c K a : Nat) : ∀ d, oM u c K a ≤ oM u c K (a + d) := by
  intro d
  induction d with
  | zero => exact Nat.le_refl _
  | succ d ih =>
    rw [show a + (d + 1) = a + d + 1 from rfl, oM]
    omega
theorem oM_le (u c K b : Nat) : ∀ a, (∀ x, x < a → pI u c K x < b) → oM u c K a ≤ b := by
  intro a
  induction a with
  | zero => intro _; exact Nat.zero_le _
  | succ a ih =>
    intro h
    have h1 := ih (fun x hx => h x (by omega))
    have h2 := h a (by omega)
    rw [oM]
    omega
theorem oM_gt (u c K : Nat) : ∀ a x, x < a → pI u c K x < oM u c K a := by
  intro a
  induction a with
  | zero => intro x h; omega
  | succ a ih =>
    intro x h
    rw [oM]
    by_cases e : x = a
    · subst e; omega
    · have := ih x (by omega); omega
theorem lM_zero (u c K i : Nat) (a : Nat) (h : oM u c K a ≤ i) : lM u c K i a = 0 := by
  have := lM_le u c K i 0 a (fun x hx e => by have := oM_gt u c K a x hx; omega)
  omega
/-- The bytes of the first n objects together. -/
def sM (u c K a : Nat) : Nat → Nat
  | 0 => 0
  | n + 1 => sM u c K a n + lM u c K n a
theorem sM_le (u c K a o : Nat) (h : ∀ i, lM u c K i a ≤ o) : ∀ n, sM u c K a n ≤ n * o := by
  intro n
  induction n with
  | zero => exact Nat.zero_le _
  | succ n ih => rw [sM, Nat.add_mul, Nat.one_mul]; have := h n; omega
theorem sM_step (u c K a : Nat) : ∀ n, sM u c K a n + (if pI u c K a < n then lM u c K (pI u c K a) (a + 1) - lM u c K (pI u c K a) a else 0) = sM u c K (a + 1) n := by
  intro n
  induction n with
  | zero => simp [sM]
  | succ n ih =>
    rw [sM, sM, ← ih]
    have hm := lM_mono u c K n a 1
    by_cases e : pI u c K a = n
    · subst e
      rw [if_pos (by omega), if_neg (by omega)]
      omega
    · have : lM u c K n (a + 1) = lM u c K n a := by rw [lM, if_neg e]
      rw [this]
      by_cases q : pI u c K a < n
      · rw [if_pos q, if_pos (by omega)]; omega
      · rw [if_neg q, if_neg (by omega)]; omega
theorem sM_ge (u c K n : Nat) (hu : 0 < u) (hc : 0 < c) : ∀ a, (∀ x, x < a → pI u c K x < n) → a ≤ sM u c K a n := by
  intro a
  induction a with
  | zero => intro _; exact Nat.zero_le _
  | succ a ih =>
    intro h
    have h1 := ih (fun x hx => h x (by omega))
    have h2 := sM_step u c K a n
    rw [if_pos (h a (by omega))] at h2
    have h3 : lM u c K (pI u c K a) a ≤ pO u c K a := lM_le _ _ _ _ _ _ (fun x hx e => pO_up u c K x a hu hc hx e)
    have h4 : lM u c K (pI u c K a) (a + 1) = max (lM u c K (pI u c K a) a) (pO u c K a + 1) := by rw [lM, if_pos rfl]
    omega
theorem pI_lt (u c K q x : Nat) (hu : 0 < u) (hc : 0 < c) (hK : 0 < K) (h : x < q * (K * u * c)) : pI u c K x < q * c := by
  have h1 : x / u / c / K < q := by
    rw [Nat.div_div_eq_div_mul, Nat.div_div_eq_div_mul]
    refine (Nat.div_lt_iff_lt_mul (Nat.mul_pos hu (Nat.mul_pos hc hK))).2 ?_
    have : u * (c * K) = K * u * c := by rw [← Nat.mul_assoc, Nat.mul_comm (u * c) K, Nat.mul_assoc]
    rw [this]; exact h
  unfold pI
  have h2 : x / u % c < c := Nat.mod_lt _ hc
  have h3 := Nat.mul_le_mul_right c (show x / u / c / K + 1 ≤ q from h1)
  rw [Nat.add_mul, Nat.one_mul] at h3
  omega
theorem sM_eq (u c K a : Nat) (hu : 0 < u) (hc : 0 < c) (hK : 0 < K) (h : a % (K * u * c) = 0) : sM u c K a (oM u c K a) ≤ a := by
  have e : a / (K * u * c) * (K * u * c) = a := Nat.div_mul_cancel (Nat.dvd_of_mod_eq_zero h)
  have h1 : oM u c K a ≤ a / (K * u * c) * c := oM_le _ _ _ _ _ (fun x hx => pI_lt u c K _ x hu hc hK (by rw [e]; exact hx))
  have h2 := sM_le u c K a (K * u) (fun i => lM_le _ _ _ _ _ _ (fun x _ _ => pO_lt u c K x hu hK)) (oM u c K a)
  have h3 := Nat.mul_le_mul_right (K * u) h1
  have h4 : a / (K * u * c) * c * (K * u) = a := by rw [Nat.mul_assoc, Nat.mul_comm c (K * u)]; exact e
  omega

theorem oF_oM {u c o : Nat} (h : Lay u c o) : ∀ d i, i + d ≤ 4096 → oF (fdOf u c o 0) d i (oM u c (o / u) i) = (oM u c (o / u) (i + d) : Nat) := by
  intro d
  induction d with
  | zero => intro i _; rfl
  | succ d ih =>
    intro i hi
    have h1 := pI_le u c (o / u) i h.K
    have e : mx ((oM u c (o / u) i : Nat) : Int) (wrap64 (((pI u c (o / u) i : Nat) : Int) + 1)) = ((oM u c (o / u) (i + 1) : Nat) : Int) := by
      rw [show oM u c (o / u) (i + 1) = max (oM u c (o / u) i) (pI u c (o / u) i + 1) from rfl, wrap_of (by omega) (by omega)]
      unfold mx; split <;> omega
    have hf := fd_nat h 0 i (by omega)
    rw [Nat.zero_add, show ((0 : Nat) : Int) = 0 from rfl] at hf
    rw [oF, hf, e, ih (i + 1) (by omega)]
    congr 2
    omega
theorem lF_lM {u c o : Nat} (h : Lay u c o) (ix : Nat) : ∀ d i, i + d ≤ 4096 → lF (fdOf u c o 0) ix d i (lM u c (o / u) ix i) = (lM u c (o / u) ix (i + d) : Nat) := by
  intro d
  induction d with
  | zero => intro i _; rfl
  | succ d ih =>
    intro i hi
    have h1 := pO_lt u c (o / u) i h.u1 h.K
    rw [h.Ku] at h1
    have ho := h.o64
    have e : (if ((pI u c (o / u) i : Nat) : Int) = (ix : Int) then mx ((lM u c (o / u) ix i : Nat) : Int) (wrap64 (((pO u c (o / u) i : Nat) : Int) + 1)) else ((lM u c (o / u) ix i : Nat) : Int)) = ((lM u c (o / u) ix (i + 1) : Nat) : Int) := by
      rw [lM, wrap_of (by omega) (by omega)]
      by_cases q : pI u c (o / u) i = ix
      · rw [if_pos q, if_pos (by omega)]
        unfold mx; split <;> omega
      · rw [if_neg q, if_neg (by omega)]
    have hf := fd_nat h 0 i (by omega)
    rw [Nat.zero_add, show ((0 : Nat) : Int) = 0 from rfl] at hf
    rw [lF, hf, e, ih (i + 1) (by omega)]
    congr 2
    omega
theorem obj_nat {u c o : Nat} (h : Lay u c o) (m : Nat) (hm : m ≤ 4096) : stripe_Objects.f u c o (m : Int) = some ((oM u c (o / u) m : Nat) : Int) := by
  have e : mn (mx (m : Int) 0) 4096 = (m : Int) := by unfold mn mx; (repeat' split) <;> omega
  have := oF_oM h m 0 (by omega)
  rw [Nat.zero_add] at this
  unfold stripe_Objects.f
  rw [if_pos h.okL, e, Int.toNat_natCast]
  unfold objS
  rw [obj_pcs _ m 0 z51 0 (by omega) (fun q => by simp [z51] at q), if_neg (by simp [z51]), ← this]
  rfl
theorem len_nat {u c o : Nat} (h : Lay u c o) (m i : Nat) (hm : m ≤ 4096) : stripe_Length.f u c o (m : Int) (i : Int) = some ((lM u c (o / u) i m : Nat) : Int) := by
  have e : mn (mx (m : Int) 0) 4096 = (m : Int) := by unfold mn mx; (repeat' split) <;> omega
  have := lF_lM h i m 0 (by omega)
  rw [Nat.zero_add] at this
  unfold stripe_Length.f
  rw [if_pos h.okL, e, Int.toNat_natCast, len_pcs _ i o (by have := h.o64; omega) m 0 z51 0 (by omega) (fun q => by simp [z51] at q) (by omega) (fd_off h m hm), if_neg (by simp [z51]), ← this]
  rfl
theorem lM_o {u c o : Nat} (h : Lay u c o) (i a : Nat) : lM u c (o / u) i a ≤ o := by
  have := lM_le u c (o / u) i (o / u * u) a (fun x _ _ => pO_lt u c (o / u) x h.u1 h.K)
  rw [h.Ku] at this
  exact this
theorem grows_end {u c o m p : Nat} (h : Lay u c o) (hmp : m ≤ p) (hp : p ≤ 4096) : ∀ d i, i + d = oM u c (o / u) m →
    Ev (fun k => reeflaw28_StripeGrows.l0 k m p (oM u c (o / u) m : Nat) (sM u c (o / u) m i : Nat) i u c o) true := by
  have hn : oM u c (o / u) m ≤ 4096 := oM_le _ _ _ _ _ (fun x hx => by have := pI_le u c (o / u) x h.K; omega)
  have hs : ∀ i, i ≤ oM u c (o / u) m → sM u c (o / u) m i ≤ 4096 * 64 := fun i hi => by
    have h1 := sM_le u c (o / u) m o (lM_o h · m) i
    have h2 : i * o ≤ 4096 * 64 := Nat.mul_le_mul (by omega) h.o64
    omega
  intro d
  induction d with
  | zero =>
    intro i hi
    rw [Nat.add_zero] at hi
    subst hi
    have hge := sM_ge u c (o / u) (oM u c (o / u) m) h.u1 h.c1 m (oM_gt u c (o / u) m)
    have hz : stripe_Length.f u c o (m : Int) ((oM u c (o / u) m : Nat) : Int) = some 0 := by
      rw [len_nat h m _ (by omega), lM_zero u c (o / u) _ m (Nat.le_refl _)]; rfl
    have h16 : o * c ≤ 64 * 16 := Nat.mul_le_mul h.o64 h.c16
    have hw : wrap64 ((o : Int) * (c : Int)) = ((o * c : Nat) : Int) := by rw [← Int.natCast_mul, wrap_nat (by omega)]
    have hpos : 0 < o * c := Nat.mul_pos (by have := h.u1; have := h.uo; omega) h.c1
    have heq : m % (o * c) = 0 → sM u c (o / u) m (oM u c (o / u) m) = m := fun q => by
      have := sM_eq u c (o / u) m h.u1 h.c1 h.K (by rw [h.Ku]; exact q)
      omega
    refine Ev.step (f := fun k => (reeflaw28_awake.f k).bind fun t => some t) (fun k => ?_) (Ev.bind awake_ev (Ev.now _))
    simp only [reeflaw28_StripeGrows.l0, hz, Option.bind_some, hw, tmod_nat, if_true]
    rw [if_neg (by omega), if_pos (by omega), if_neg (by omega)]
    by_cases q : m % (o * c) = 0
    · rw [if_pos (by omega), if_pos (by rw [heq q])]
    · rw [if_neg (by omega)]
  | succ d ih =>
    intro i hi
    have hlt : i < oM u c (o / u) m := by clear hs ih; omega
    have h1 : lM u c (o / u) i m ≤ lM u c (o / u) i p := by
      obtain ⟨e, rfl⟩ := Nat.exists_eq_add_of_le hmp
      exact lM_mono u c (o / u) i m e
    have h2 := lM_o h i m
    have h3 := hs (i + 1) (by omega)
    have e3 : sM u c (o / u) m (i + 1) = sM u c (o / u) m i + lM u c (o / u) i m := rfl
    have w1 : wrap64 (((sM u c (o / u) m i : Nat) : Int) + ((lM u c (o / u) i m : Nat) : Int)) = ((sM u c (o / u) m (i + 1) : Nat) : Int) := by
      rw [← Int.natCast_add, wrap_nat (by omega), e3]
    have w2 : wrap64 ((i : Int) + 1) = ((i + 1 : Nat) : Int) := by rw [wrap_of (by omega) (by omega)]; omega
    refine Ev.step (f := fun k => reeflaw28_StripeGrows.l0 k m p (oM u c (o / u) m : Nat) (sM u c (o / u) m (i + 1) : Nat) ((i + 1 : Nat) : Int) u c o) (fun k => ?_) (ih (i + 1) (by omega))
    simp only [reeflaw28_StripeGrows.l0, len_nat h m i (by omega), len_nat h p i hp, Option.bind_some, w1, w2]
    have q1 : ((i : Nat) : Int) < ((oM u c (o / u) m : Nat) : Int) := Int.ofNat_lt.2 hlt
    have q2 : ¬ ((lM u c (o / u) i m : Nat) : Int) < 0 := Int.not_lt.2 (Int.natCast_nonneg _)
    have q3 : ¬ ((lM u c (o / u) i m : Nat) : Int) > ((lM u c (o / u) i p : Nat) : Int) := Int.not_lt.2 (Int.ofNat_le.2 h1)
    have q4 : ¬ ((lM u c (o / u) i m : Nat) : Int) > (o : Int) := Int.not_lt.2 (Int.ofNat_le.2 h2)
    rw [if_pos q1, if_neg q2, if_neg q3, if_neg q4]
theorem arg_nat (a : Int) : ∃ m : Nat, wrap64 (Int.tmod (IntKind.u64.wrap a) 4097) = (m : Int) ∧ m ≤ 4096 := by
  have h0 : 0 ≤ IntKind.u64.wrap a := by rw [IntKind.wrap_u64]; omega
  have h1 : Int.tmod (IntKind.u64.wrap a) 4097 = (IntKind.u64.wrap a) % 4097 := Int.tmod_eq_emod_of_nonneg h0
  rw [h1, wrap_of (by omega) (by omega)]
  exact ⟨((IntKind.u64.wrap a) % 4097).toNat, by omega, by omega⟩
theorem grows_ev (u c o a b : Int) : Ev (fun k => reeflaw28_StripeGrows.f k u c o a b) true := by
  unfold reeflaw28_StripeGrows.f
  obtain ⟨t, ht, _, hfit⟩ := fit_cases u c o
  rw [ht]
  simp only [Option.bind_some]
  cases t with
  | false =>
    simp only [Bool.false_eq_true, if_false]
    exact Ev.bind awake_ev (Ev.now _)
  | true =>
    obtain ⟨u, c, o, rfl, rfl, rfl, h⟩ := hfit rfl
    obtain ⟨m0, hm0, hm4⟩ := arg_nat a
    obtain ⟨p0, hp0, hp4⟩ := arg_nat b
    rw [hm0, hp0]
    obtain ⟨m, hm⟩ : ∃ m : Nat, mn (m0 : Int) (p0 : Int) = (m : Int) := by unfold mn; split <;> exact ⟨_, rfl⟩
    obtain ⟨p, hp⟩ : ∃ p : Nat, mx (m0 : Int) (p0 : Int) = (p : Int) := by unfold mx; split <;> exact ⟨_, rfl⟩
    have hmp : m ≤ p ∧ p ≤ 4096 := by
      unfold mn at hm; unfold mx at hp
      split at hm <;> split at hp <;> omega
    have hmono : oM u c (o / u) m ≤ oM u c (o / u) p := by
      obtain ⟨e, rfl⟩ := Nat.exists_eq_add_of_le hmp.1
      exact oM_mono u c (o / u) m e
    have hn : oM u c (o / u) m ≤ 4096 := oM_le _ _ _ _ _ (fun x hx => by have := pI_le u c (o / u) x h.K; omega)
    rw [hm, hp, obj_nat h m (by omega), obj_nat h p hmp.2]
    simp only [Option.bind_some, if_true]
    have hd : decide (((oM u c (o / u) m : Nat) : Int) > 4096) = false := decide_eq_false (by omega)
    have q1 : ¬ ((oM u c (o / u) m : Nat) : Int) > ((oM u c (o / u) p : Nat) : Int) := Int.not_lt.2 (Int.ofNat_le.2 hmono)
    have q2 : ¬ ((oM u c (o / u) m : Nat) : Int) < 0 := Int.not_lt.2 (Int.natCast_nonneg _)
    refine Ev.congr (f := fun k => reeflaw28_StripeGrows.j0 k m p ((oM u c (o / u) m : Nat) : Int) false u c o) (fun k => by rw [if_neg q1, if_neg q2, hd]) ?_
    have := grows_end h hmp.1 hmp.2 (oM u c (o / u) m) 0 (by omega)
    exact Ev.step (f := fun k => reeflaw28_StripeGrows.l0 k m p (oM u c (o / u) m : Nat) 0 0 u c o) (fun k => by simp only [reeflaw28_StripeGrows.j0]; rw [if_neg (by decide)]) this
end Go.Proofs.YteajaofcgcgodaaDoor.Pure
