/- Decimal numerals of less than 4096, and a text cut at its first dot: plain Lean. -/
import Derived.Lib.AtoiAll
import Derived.Lib.ItoaMem
import Derived.Lib.IndexMore
namespace Go.Proofs.YteajaofcgcgodaaDoor.Pure
set_option linter.unusedVariables false
/-- The numeral of a number below 4096. -/
def dig (n : Nat) : List UInt8 :=
  if n < 10 then [UInt8.ofNat (48 + n)] else if n < 100 then [UInt8.ofNat (48 + n / 10), UInt8.ofNat (48 + n % 10)]
  else if n < 1000 then [UInt8.ofNat (48 + n / 100), UInt8.ofNat (48 + n / 10 % 10), UInt8.ofNat (48 + n % 10)]
  else [UInt8.ofNat (48 + n / 1000), UInt8.ofNat (48 + n / 100 % 10), UInt8.ofNat (48 + n / 10 % 10), UInt8.ofNat (48 + n % 10)]
theorem dig_eq (n : Nat) (h : n < 4096) : Lib.decDigits n = dig n := by
  unfold dig
  split
  · next h1 => exact Lib.decDigits_one h1
  split
  · next h1 h2 => exact Lib.decDigits_two h1 h2
  split
  · next h1 h2 h3 =>
    rw [Lib.decDigits, dif_neg h1, Lib.decDigits_two (by omega) (by omega)]
    simp only [List.cons_append, List.nil_append]
    rw [show n / 10 / 10 = n / 100 by omega]
  · next h1 h2 h3 =>
    rw [Lib.decDigits, dif_neg h1, Lib.decDigits, dif_neg (by omega), Lib.decDigits_two (by omega) (by omega)]
    simp only [List.cons_append, List.nil_append]
    rw [show n / 10 / 10 / 10 = n / 1000 by omega, show n / 10 / 10 % 10 = n / 100 % 10 by omega]
/-- The document's own reading of at most five digits. -/
def refv : Nat → Nat → List UInt8 → Option Nat
  | 0, acc, _ => some acc
  | _, acc, [] => some acc
  | k + 1, acc, b :: l => if b.toNat < 48 ∨ 57 < b.toNat then none else refv k (10 * acc + (b.toNat - 48)) l
def okN (n : Nat) : Bool := (match Lib.atoiAll (dig n) with | .ok v => v == (n : Int) | _ => false) && (refv 5 0 (dig n) == some n) && (dig n).all (fun b => b != 46)
theorem okAll : ((List.range 4096).all okN) = true := by decide +kernel
theorem okAt (n : Nat) (h : n < 4096) : okN n = true := List.all_eq_true.1 okAll n (List.mem_range.2 h)
theorem atoi_dig (n : Nat) (h : n < 4096) : Lib.atoiAll (dig n) = .ok (n : Int) := by
  have := okAt n h
  unfold okN at this
  rw [Bool.and_eq_true, Bool.and_eq_true] at this
  have h1 := this.1.1
  cases hd : Lib.atoiAll (dig n) with
  | ok v => rw [hd] at h1; rw [beq_iff_eq.1 h1]
  | «syntax» => rw [hd] at h1; cases h1
  | range => rw [hd] at h1; cases h1
theorem refv_dig (n : Nat) (h : n < 4096) : refv 5 0 (dig n) = some n := by
  have := okAt n h
  unfold okN at this
  rw [Bool.and_eq_true, Bool.and_eq_true] at this
  exact beq_iff_eq.1 this.1.2
theorem itoa_dig (n : Nat) (h : n < 4096) : Lib.itoa (n : Int) = dig n := by rw [Lib.itoa_nonneg, dig_eq n h]
/-- Where the first dot is, or the length. -/
def dotAt : List UInt8 → Nat
  | [] => 0
  | b :: l => if b = 46 then 0 else dotAt l + 1
theorem dot_le : ∀ l : List UInt8, dotAt l ≤ l.length
  | [] => Nat.le_refl _
  | b :: l => by
    have := dot_le l
    rw [dotAt, List.length_cons]
    split <;> omega
theorem index_dot : ∀ l : List UInt8, Lib.index l [46] = if dotAt l < l.length then (dotAt l : Int) else -1
  | [] => rfl
  | b :: l => by
    rw [Lib.index, dotAt, index_dot l]
    by_cases hb : b = 46
    · subst hb
      simp
    · have : List.isPrefixOf [46] (b :: l) = false := by
        simp [List.isPrefixOf]
        exact fun q => absurd q.symm hb
      rw [this, if_neg (by decide), if_neg hb, List.length_cons]
      by_cases hl : dotAt l < l.length
      · have e1 : (if dotAt l < l.length then (dotAt l : Int) else -1) = (dotAt l : Int) := if_pos hl
        have e2 : ((dotAt l : Int) == -1) = false := by rw [beq_eq_false_iff_ne]; omega
        rw [e1, e2, if_neg Bool.false_ne_true, if_pos (show dotAt l + 1 < l.length + 1 by omega)]
        omega
      · have e1 : (if dotAt l < l.length then (dotAt l : Int) else -1) = -1 := if_neg hl
        rw [e1, if_neg (show ¬ dotAt l + 1 < l.length + 1 by omega)]
        rfl
theorem cut_dot (l : List UInt8) : Lib.cut l [46] = if dotAt l < l.length then (l.take (dotAt l), l.drop (dotAt l + 1), true) else (l, [], false) := by
  unfold Lib.cut
  rw [index_dot]
  by_cases h : dotAt l < l.length
  · rw [if_pos h, if_pos h, if_pos (by omega)]
    simp
  · rw [if_neg h, if_neg h, if_neg (by decide)]
theorem dot_append : ∀ (a r : List UInt8), (∀ b ∈ a, b ≠ 46) → dotAt (a ++ 46 :: r) = a.length
  | [], r, _ => by rw [List.nil_append, dotAt, if_pos rfl]; rfl
  | b :: a, r, h => by
    rw [List.cons_append, dotAt, if_neg (h b (by simp)), dot_append a r (fun x hx => h x (List.mem_cons_of_mem _ hx)), List.length_cons]
theorem take_dot : ∀ (l : List UInt8), dotAt l < l.length → l = l.take (dotAt l) ++ 46 :: l.drop (dotAt l + 1)
  | [], h => absurd h (Nat.not_lt_zero _)
  | b :: l, h => by
    rw [dotAt] at h ⊢
    by_cases hb : b = 46
    · rw [if_pos hb, hb]; rfl
    · rw [if_neg hb] at h ⊢
      rw [List.length_cons] at h
      have := take_dot l (by omega)
      rw [List.take_succ_cons, List.drop_succ_cons, List.cons_append, ← this]
end Go.Proofs.YteajaofcgcgodaaDoor.Pure
