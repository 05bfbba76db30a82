/- The sum of bytes, in the program's and in the document's way, is one. -/
import Derived.Test.YtoadflcdpcfibaaCrc
import Derived.Test.YtoadflcdpcfibaaOfframeSum
import Derived.Test.YtoadflcdpcfibaaOfreefref03Sum
namespace Go.Proofs.Ytoadflcdpcfibaa.Pure
open Go.RowKit Go.Proofs.Ytoadflcdpcfibaa.P Go.Proofs.YtoadflcdpcfibaaW.PrintWords Go.Proofs.YtoadflcdpcfibaaW.PrintLast Go.Proofs.YtoadflcdpcfibaaW.PrintMore
open Crc
set_option linter.unusedVariables false

theorem wrap_of {x : Int} (h0 : -9223372036854775808 ≤ x) (h1 : x < 9223372036854775808) : wrap64 x = x := by unfold wrap64; omega
theorem rd_get (l : List Int) (i : Nat) (h : i < l.length) : rd l (i : Int) = l[i] := by simp [rd, h]
/-- A register as a number. -/
def I (b : BitVec 32) : Int := (b.toNat : Int)
def B (x : Int) : BitVec 32 := BitVec.ofInt 32 x
theorem I_range (b : BitVec 32) : 0 ≤ I b ∧ I b < 4294967296 := by
  have := b.isLt
  unfold I
  omega
theorem I_B {x : Int} (h0 : 0 ≤ x) (h1 : x < 4294967296) : I (B x) = x := by
  unfold I B
  rw [BitVec.toNat_ofInt]
  simp
  omega
theorem B_I (b : BitVec 32) : B (I b) = b := by
  unfold I B
  simp
theorem wrap_u32 (x : Int) : IntKind.u32.wrap x = x % 4294967296 := IntKind.wrap_u32 x
theorem bits_xor (a b : BitVec 32) : Go.bits .xor .u32 (I a) (I b) = I (a ^^^ b) := by
  have h := I_range (a ^^^ b)
  show IntKind.u32.wrap ((BitVec.ofInt 32 (I a) ^^^ BitVec.ofInt 32 (I b)).toNat : Int) = _
  rw [show BitVec.ofInt 32 (I a) = a from B_I a, show BitVec.ofInt 32 (I b) = b from B_I b, wrap_u32]
  unfold I at h ⊢
  omega
theorem bits_and (a b : BitVec 32) : Go.bits .and .u32 (I a) (I b) = I (a &&& b) := by
  have h := I_range (a &&& b)
  show IntKind.u32.wrap ((BitVec.ofInt 32 (I a) &&& BitVec.ofInt 32 (I b)).toNat : Int) = _
  rw [show BitVec.ofInt 32 (I a) = a from B_I a, show BitVec.ofInt 32 (I b) = b from B_I b, wrap_u32]
  unfold I at h ⊢
  omega
theorem I_half (b : BitVec 32) : I b / 2 = I (b >>> (1 : Nat)) := by
  unfold I
  rw [BitVec.toNat_ushiftRight, Nat.shiftRight_eq_div_pow]
  omega
theorem I_low (b : BitVec 32) : Go.bits .and .u32 (I b) 1 = if b.getLsbD 0 then 1 else 0 := by
  rw [show (1 : Int) = I 1#32 by decide, bits_and]
  have : b &&& 1#32 = one (b.getLsbD 0) := by
    apply BitVec.eq_of_getLsbD_eq
    intro i hi
    cases i with
    | zero => rw [BitVec.getLsbD_and]; unfold one; cases b.getLsbD 0 <;> rfl
    | succ i => unfold one; cases b.getLsbD 0 <;> simp [BitVec.getLsbD_one]
  rw [this]
  unfold one
  cases b.getLsbD 0 <;> decide
/-- One bit further, as the program writes it. -/
theorem step_prog (b : BitVec 32) : Go.bits .xor .u32 (I b / 2) (Go.bits .and .u32 2197175160 ((-(Go.bits .and .u32 (I b) 1)) % 4294967296)) = I (st b) := by
  rw [I_low, I_half]
  unfold st
  cases b.getLsbD 0 with
  | true =>
    rw [if_pos rfl, if_pos rfl, show ((-(1:Int)) % 4294967296) = I (BitVec.allOnes 32) by decide, show (2197175160 : Int) = I poly by decide, bits_and, BitVec.and_allOnes, bits_xor]
  | false =>
    rw [if_neg (by decide), if_neg (by decide), show ((-(0:Int)) % 4294967296) = I 0#32 by decide, show (2197175160 : Int) = I poly by decide, bits_and, BitVec.and_zero, bits_xor]
theorem step_ref_one (b : BitVec 32) (h : b.getLsbD 0 = true) : Go.bits .xor .u32 (I b / 2) 2197175160 = I (st b) := by
  unfold st
  rw [h, if_pos rfl, I_half, show (2197175160 : Int) = I poly by decide, bits_xor]
theorem step_ref_zero (b : BitVec 32) (h : b.getLsbD 0 = false) : I b / 2 = I (st b) := by
  unfold st
  rw [h, if_neg (by decide), I_half, BitVec.xor_zero]
theorem flip (b : BitVec 32) : Go.bits .xor .u32 4294967295 (I b) = I (~~~ b) := by
  rw [show (4294967295 : Int) = I (BitVec.allOnes 32) by decide, bits_xor, BitVec.allOnes_xor]
/-- The sum of bytes. -/
def sumI (l : List Int) : Int := I (~~~ (regs (BitVec.allOnes 32) (l.map B)))
theorem sumI_range (l : List Int) : 0 ≤ sumI l ∧ sumI l < 4294967296 := I_range _
def bytes (l : List Int) : Prop := ∀ x ∈ l, 0 ≤ x ∧ x < 256
theorem eight (l : List Int) (n : Int) (i : Int) : ∀ (d j : Nat) (b : BitVec 32) (k : Nat), j + d = 8 → frame_Sum.l1 (k + d + 1) (I b) l n i (j : Int) = frame_Sum.l0 k (I (stn d b)) l n (wrap64 (i + 1)) := by
  intro d
  induction d with
  | zero =>
    intro j b k h
    simp only [frame_Sum.l1]
    rw [if_neg (by omega)]
    rfl
  | succ d ih =>
    intro j b k h
    rw [show k + (d + 1) + 1 = (k + d + 1) + 1 by omega]
    simp only [frame_Sum.l1]
    rw [if_pos (by omega), step_prog, wrap_of (by omega) (by omega)]
    exact ih (j + 1) (st b) k (by omega)
theorem byte_xor {b : BitVec 32} {x : Int} (h : 0 ≤ x ∧ x < 256) : Go.bits .xor .u32 (I b) (x % 4294967296) = I (b ^^^ B x) := by
  rw [show x % 4294967296 = I (B x) by rw [I_B h.1 (by omega)]; omega, bits_xor]
theorem sum_l0 (l : List Int) (hb : bytes l) (hl : l.length < 9223372036854775807) : ∀ (d i : Nat) (b : BitVec 32), i + d = l.length → Ev (fun k => frame_Sum.l0 k (I b) l (l.length : Int) (i : Int)) (I (~~~ (regs b ((l.drop i).map B)))) := by
  intro d
  induction d with
  | zero =>
    intro i b h
    refine Ev.step (f := fun _ => some (I (~~~ (regs b ((l.drop i).map B))))) (fun k => ?_) (Ev.now _)
    simp only [frame_Sum.l0]
    rw [if_neg (by omega), List.drop_eq_nil_of_le (by omega), flip]
    rfl
  | succ d ih =>
    intro i b h
    have hi : i < l.length := by omega
    obtain ⟨K, hK⟩ := ih (i + 1) (byt b (B l[i])) (by omega)
    refine ⟨K + 10, fun k hk => ?_⟩
    obtain ⟨k, rfl⟩ : ∃ m, k = (m + 8 + 1) + 1 := ⟨k - 10, by omega⟩
    show frame_Sum.l0 (k + 8 + 1 + 1) (I b) l (l.length : Int) (i : Int) = _
    simp only [frame_Sum.l0]
    rw [if_pos (by omega), if_pos (by omega), if_pos (by omega), rd_get l i hi, byte_xor (hb _ (List.getElem_mem hi))]
    have := eight l (l.length : Int) (i : Int) 8 0 (b ^^^ B l[i]) k rfl
    rw [show ((0 : Nat) : Int) = 0 from rfl] at this
    rw [this, wrap_of (by omega) (by omega)]
    refine (hK k (by omega)).trans ?_
    rw [List.drop_eq_getElem_cons hi]
    rfl
theorem sum_ev (l : List Int) (hb : bytes l) (hl : l.length < 9223372036854775807) : Ev (fun k => frame_Sum.f k l) (sumI l) := by
  have := sum_l0 l hb hl l.length 0 (BitVec.allOnes 32) (by omega)
  rw [List.drop_zero] at this
  exact this
theorem step_l0 : ∀ (d j : Nat) (b : BitVec 32), j + d = 8 → Ev (fun k => reefref03_step.l0 k (I b) (j : Int)) (I (stn d b)) := by
  intro d
  induction d with
  | zero =>
    intro j b h
    refine Ev.step (f := fun _ => some (I (stn 0 b))) (fun k => ?_) (Ev.now _)
    simp only [reefref03_step.l0]
    rw [if_neg (by omega)]
    rfl
  | succ d ih =>
    intro j b h
    refine Ev.step (f := fun k => reefref03_step.l0 k (I (st b)) ((j + 1 : Nat) : Int)) (fun k => ?_) (ih (j + 1) (st b) (by omega))
    simp only [reefref03_step.l0]
    rw [if_pos (by omega), I_low, wrap_of (by omega) (by omega)]
    cases hb : b.getLsbD 0 with
    | true => rw [if_pos rfl, if_pos rfl, step_ref_one b hb]; rfl
    | false => rw [if_neg (by decide), step_ref_zero b hb]; rfl
theorem step_ev (b : BitVec 32) : Ev (fun k => reefref03_step.f k (I b)) (I (stn 8 b)) := step_l0 8 0 b rfl
theorem rsum_l0 (l : List Int) (hb : bytes l) (hl : l.length < 9223372036854775807) : ∀ (d i : Nat) (b : BitVec 32), i + d = l.length → Ev (fun k => reefref03_Sum.l0 k l (I b) (i : Int)) (I (~~~ (regs b ((l.drop i).map B)))) := by
  intro d
  induction d with
  | zero =>
    intro i b h
    refine Ev.step (f := fun _ => some (I (~~~ (regs b ((l.drop i).map B))))) (fun k => ?_) (Ev.now _)
    simp only [reefref03_Sum.l0]
    rw [if_neg (by omega), List.drop_eq_nil_of_le (by omega), flip]
    rfl
  | succ d ih =>
    intro i b h
    have hi : i < l.length := by omega
    refine Ev.step (f := fun k => (reefref03_step.f k (I (b ^^^ B l[i]))).bind fun t => reefref03_Sum.l0 k l t ((i + 1 : Nat) : Int)) (fun k => ?_) (Ev.bind (step_ev _) ?_)
    · simp only [reefref03_Sum.l0]
      rw [if_pos (by omega), if_pos (by omega), rd_get l i hi, byte_xor (hb _ (List.getElem_mem hi)), wrap_of (by omega) (by omega)]
      rfl
    · rw [List.drop_eq_getElem_cons hi]
      exact ih (i + 1) (byt b (B l[i])) (by omega)
theorem rsum_ev (l : List Int) (hb : bytes l) (hl : l.length < 9223372036854775807) : Ev (fun k => reefref03_Sum.f k l) (sumI l) := by
  have := rsum_l0 l hb hl l.length 0 (BitVec.allOnes 32) (by omega)
  rw [List.drop_zero] at this
  exact this
end Go.Proofs.Ytoadflcdpcfibaa.Pure
