/- Plain mathematics of the logarithm of layer 1. -/
namespace Go.Proofs.Ythfeigheeloeaaa.Plain

def lstep (p : Nat × Nat) : Nat × Nat := if 4294967296 ≤ p.1 * p.1 / 2147483648 then (p.1 * p.1 / 2147483648 / 2, 2 * p.2 + 1) else (p.1 * p.1 / 2147483648, 2 * p.2)
def liter (y : Nat) : Nat → Nat × Nat
  | 0 => (y, 0)
  | j + 1 => lstep (liter y j)
def lgy (x : Nat) : Nat := x * 2 ^ (31 - Nat.log2 x)
def logN (x : Nat) : Nat := if x = 0 then 0 else Nat.log2 x * 65536 + (liter (lgy x) 16).2

theorem lgy_lo {x : Nat} (h0 : x ≠ 0) (h : x < 4294967296) : 2147483648 ≤ lgy x ∧ lgy x < 4294967296 := by
  have h1 := Nat.log2_self_le h0
  have h2 : x < 2 ^ (Nat.log2 x + 1) := Nat.lt_log2_self
  have h3 : Nat.log2 x < 32 := (Nat.log2_lt h0).2 h
  unfold lgy
  have e1 : (2:Nat) ^ Nat.log2 x * 2 ^ (31 - Nat.log2 x) = 2147483648 := by rw [← Nat.pow_add]; rw [show Nat.log2 x + (31 - Nat.log2 x) = 31 by omega]
  have e2 : (2:Nat) ^ (Nat.log2 x + 1) * 2 ^ (31 - Nat.log2 x) = 4294967296 := by rw [← Nat.pow_add]; rw [show Nat.log2 x + 1 + (31 - Nat.log2 x) = 32 by omega]
  constructor
  · rw [← e1]; exact Nat.mul_le_mul_right _ h1
  · rw [← e2]; exact Nat.mul_lt_mul_of_pos_right h2 (Nat.pow_pos (by decide))
theorem lstep_rng {p : Nat × Nat} (h1 : 2147483648 ≤ p.1) (h2 : p.1 < 4294967296) : 2147483648 ≤ (lstep p).1 ∧ (lstep p).1 < 4294967296 := by
  have a : 2147483648 * 2147483648 ≤ p.1 * p.1 := Nat.mul_le_mul h1 h1
  have b : p.1 * p.1 ≤ 4294967295 * 4294967295 := Nat.mul_le_mul (by omega) (by omega)
  unfold lstep
  split <;> simp only <;> omega
theorem liter_rng {y : Nat} (h1 : 2147483648 ≤ y) (h2 : y < 4294967296) (j : Nat) : 2147483648 ≤ (liter y j).1 ∧ (liter y j).1 < 4294967296 := by
  induction j with
  | zero => exact ⟨h1, h2⟩
  | succ j ih => exact lstep_rng ih.1 ih.2
theorem liter_two (y j : Nat) : (liter y j).2 < 2 ^ j := by
  induction j with
  | zero => exact Nat.one_pos
  | succ j ih =>
    show (lstep (liter y j)).2 < 2 ^ (j + 1)
    rw [Nat.pow_succ]
    unfold lstep
    split <;> simp only <;> omega
theorem shr_gt {x n : Nat} (h0 : x ≠ 0) : 1 < x / 2 ^ n ↔ n < Nat.log2 x := by
  rw [show (1 < x / 2 ^ n) = (2 ≤ x / 2 ^ n) from rfl, Nat.le_div_iff_mul_le (Nat.pow_pos (by decide)), show 2 * 2 ^ n = 2 ^ (n + 1) by rw [Nat.pow_succ, Nat.mul_comm]]
  rw [← Nat.le_log2 h0]
  exact Iff.rfl
theorem logN_lt {x : Nat} (h : x < 4294967296) : logN x < 2097152 := by
  unfold logN
  split
  · decide
  · rename_i h0
    have h3 : Nat.log2 x < 32 := (Nat.log2_lt h0).2 h
    have := liter_two (lgy x) 16
    omega
end Go.Proofs.Ythfeigheeloeaaa.Plain
