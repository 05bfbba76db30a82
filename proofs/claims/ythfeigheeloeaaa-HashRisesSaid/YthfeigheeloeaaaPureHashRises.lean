/- Logarithms never fall, doubling adds one whole, powers of two have whole logarithms: for every two 32-bit numbers; and chapter 1's examples hold. -/
import Derived.Test.YthfeigheeloeaaaP2
import Derived.Test.YthfeigheeloeaaaPure0
namespace Go.Proofs.Ythfeigheeloeaaa.Pure
open Go.RowKit Go.Proofs.Ythfeigheeloeaaa.P Go.Proofs.YthfeigheeloeaaaW.PrintWords Go.Proofs.YthfeigheeloeaaaW.PrintLast Go.Proofs.YthfeigheeloeaaaW.PrintMore
open Plain

def lexle (p q : Nat × Nat) : Prop := p.2 < q.2 ∨ (p.2 = q.2 ∧ p.1 ≤ q.1)
theorem lstep_lex {p q : Nat × Nat} (h : lexle p q) : lexle (lstep p) (lstep q) := by
  rcases h with h | ⟨h, h'⟩
  · left
    unfold lstep
    split <;> split <;> simp only <;> omega
  · have hm : p.1 * p.1 ≤ q.1 * q.1 := Nat.mul_le_mul h' h'
    have hd : p.1 * p.1 / 2147483648 ≤ q.1 * q.1 / 2147483648 := Nat.div_le_div_right hm
    unfold lexle lstep
    split <;> split <;> simp only <;> omega
theorem liter_lex {x y : Nat} (h : x ≤ y) (j : Nat) : lexle (liter x j) (liter y j) := by
  induction j with
  | zero => exact .inr ⟨rfl, h⟩
  | succ j ih => exact lstep_lex ih
theorem log2_mono {x y : Nat} (h0 : x ≠ 0) (h : x ≤ y) : Nat.log2 x ≤ Nat.log2 y := by
  rw [Nat.le_log2 (by omega)]
  exact Nat.le_trans (Nat.log2_self_le h0) h
theorem logN_mono {x y : Nat} (h : x ≤ y) : logN x ≤ logN y := by
  unfold logN
  by_cases h0 : x = 0
  · rw [if_pos h0]; exact Nat.zero_le _
  · rw [if_neg h0, if_neg (by omega)]
    have h1 := log2_mono h0 h
    have h2 := liter_two (lgy x) 16
    by_cases e : Nat.log2 x = Nat.log2 y
    · have : lgy x ≤ lgy y := by unfold lgy; rw [e]; exact Nat.mul_le_mul_right _ h
      rw [e]
      rcases liter_lex this 16 with h | ⟨h, _⟩ <;> omega
    · omega
theorem logN_two {x : Nat} (h0 : 0 < x) (h : x < 2147483648) : logN (2 * x) = logN x + 65536 := by
  have e : Nat.log2 (2 * x) = Nat.log2 x + 1 := by
    have a := Nat.log2_self_le (show x ≠ 0 by omega)
    have b : x < 2 ^ (Nat.log2 x + 1) := Nat.lt_log2_self
    rw [Nat.log2_eq_iff (by omega)]
    rw [Nat.pow_succ] at b
    exact ⟨by rw [Nat.pow_succ]; omega, by rw [Nat.pow_succ, Nat.pow_succ]; omega⟩
  have hl : Nat.log2 x < 31 := (Nat.log2_lt (by omega)).2 h
  have e2 : lgy (2 * x) = lgy x := by
    unfold lgy
    rw [e, show 31 - Nat.log2 x = (31 - (Nat.log2 x + 1)) + 1 by omega, Nat.pow_succ, Nat.mul_comm 2 x, Nat.mul_assoc, Nat.mul_comm 2]
  unfold logN
  rw [if_neg (by omega), if_neg (by omega), e, e2]
  omega
theorem logN_pow (k : Nat) (h : k < 32) : logN (2 ^ k) = k * 65536 := by
  have e : Nat.log2 (2 ^ k) = k := Nat.log2_two_pow
  have e2 : lgy (2 ^ k) = 2147483648 := by
    unfold lgy
    rw [e, ← Nat.pow_add, show k + (31 - k) = 31 by omega]
  have e3 : (liter 2147483648 16).2 = 0 := by decide +kernel
  unfold logN
  rw [if_neg (by have := Nat.two_pow_pos k; omega), e, e2, e3, Nat.add_zero]

theorem log_f (x : Nat) (h : x < 4294967296) : hash_Log.f (x : Int) = some (logN x : Int) := by
  unfold hash_Log.f
  rw [if_pos (by omega)]
  simp

theorem rises_j1 (k : Nat) (x y : Nat) (hx : x < 4294967296) (hy : y < 4294967296) : reeflaw01_HashRises.j1 (k + 1) (y : Int) (logN x : Int) false = some true := by
  have hm : Int.tmod (y : Int) 32 = ((y % 32 : Nat) : Int) := by rw [Int.tmod_eq_emod_of_nonneg (by omega)]; rfl
  have hk : y % 32 < 32 := Nat.mod_lt _ (by decide)
  have hp : 2 ^ (y % 32) ≤ 2 ^ 31 := Nat.pow_le_pow_right (by decide) (by omega)
  have hs : shl .u32 1 ((y % 32 : Nat) : Int) = ((2 ^ (y % 32) : Nat) : Int) := by
    unfold shl
    rw [Int.toNat_natCast, show min (y % 32) (IntKind.u32.bits) = y % 32 from Nat.min_eq_left (by simp [IntKind.bits]; omega), IntKind.wrap_u32, Int.one_mul]
    push_cast
    have : (2:Int) ^ (y % 32) ≤ 2 ^ 31 := by exact_mod_cast hp
    have : (0:Int) ≤ 2 ^ (y % 32) := by exact_mod_cast Nat.zero_le (2 ^ (y % 32))
    omega
  simp only [reeflaw01_HashRises.j1]
  rw [if_neg (by decide), hm, if_pos (by omega), hs, log_f _ (by omega), logN_pow _ hk]
  simp only [Option.bind_some]
  have hlt := logN_lt hx
  have ht : ((y % 32 * 65536 : Nat) : Int) = ((y % 32 : Nat) : Int) * 65536 % 4294967296 := by omega
  rw [if_pos ht, if_pos (by omega), awake_true]
  rfl
theorem rises_j0 (k : Nat) (x y : Nat) (hx : x < 4294967296) (hy : y < 4294967296) : reeflaw01_HashRises.j0 (k + 2) (x : Int) (y : Int) (logN x : Int) false = some true := by
  simp only [reeflaw01_HashRises.j0]
  rw [if_neg (by decide)]
  by_cases h0 : (x : Int) > 0
  · rw [if_pos h0]
    by_cases h1 : (x : Int) < 2147483648
    · have hlt := logN_lt (show x < 4294967296 from hx)
      rw [if_pos h1, show (2 * (x : Int)) % 4294967296 = ((2 * x : Nat) : Int) by omega, log_f _ (by omega), logN_two (by omega) (by omega)]
      simp only [Option.bind_some]
      rw [show ((((logN x + 65536 : Nat) : Int)) != ((logN x : Int) + 65536) % 4294967296) = false by rw [bne_eq_false_iff_eq]; omega]
      exact rises_j1 k x y hx hy
    · rw [if_neg h1]; exact rises_j1 k x y hx hy
  · rw [if_neg h0]; exact rises_j1 k x y hx hy

theorem HashRises : reeflaw01_HashRises.Pure := by
  intro a b ha hb
  have ha := wf_u32 ha
  have hb := wf_u32 hb
  obtain ⟨x, rfl⟩ := Int.eq_ofNat_of_zero_le ha.1
  obtain ⟨y, rfl⟩ := Int.eq_ofNat_of_zero_le hb.1
  have j := rises_j0 0 x y (by omega) (by omega)
  refine ⟨2, ?_⟩
  unfold reeflaw01_HashRises.f
  rw [log_f x (by omega), log_f y (by omega)]
  simp only [Option.bind_some]
  by_cases hxy : (x : Int) ≤ y
  · have := logN_mono (show x ≤ y by omega)
    rw [if_pos hxy, if_neg (by omega)]
    by_cases hyx : (y : Int) ≤ x
    · obtain rfl : x = y := by omega
      rw [if_pos hyx, show decide ((logN x : Int) > (logN x : Int)) = false from decide_eq_false (by omega)]
      exact j
    · rw [if_neg hyx]; exact j
  · have := logN_mono (show y ≤ x by omega)
    rw [if_neg hxy, if_pos (by omega), show decide ((logN y : Int) > (logN x : Int)) = false from decide_eq_false (by omega)]
    exact j
end Go.Proofs.Ythfeigheeloeaaa.Pure
