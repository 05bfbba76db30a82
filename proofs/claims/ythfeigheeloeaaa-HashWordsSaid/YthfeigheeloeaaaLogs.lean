import Derived.WalkKit
import Derived.Lib.Hide
import Derived.LoopTactic
import Derived.Below
import Derived.Deep.LoopGhost
import Derived.Test.YthfeigheeloeaaaProg
import Derived.Test.YthfeigheeloeaaaPlain
namespace Go.Proofs.Ythfeigheeloeaaa.Logs
open Go.RowKit Go.Proofs Plain

theorem or_one (q f : Nat) (h : (q + f) * 2 + 1 < 4294967296) : Go.bits .or .u32 (((q : Int) + f) * 2) 1 = (((q + f) * 2 + 1 : Nat) : Int) := by
  have e : (((q : Int) + f) * 2) = ((2 ^ 1 * (q + f) : Nat) : Int) := by push_cast; omega
  rw [e, show (1 : Int) = ((1 : Nat) : Int) from rfl, (bits_nat .u32 32 (by decide) (fun n h0 h1 => IntWalk.u32_in n (by omega)) (2 ^ 1 * (q + f)) 1 (by omega) (by omega)).2, ← Nat.two_pow_add_eq_or_of_lt (show 1 < 2 ^ 1 by decide) (q + f)]
  congr 1
  omega

set_option maxRecDepth 100000 in
set_option maxHeartbeats 2000000 in
theorem log_any (x : Nat) (hx : x < 4294967296) (w : World) :
    Calls Try.prog 16 #[.int .u32 x] w fun e w' => e = .returned (.int .u32 (logN x)) ∧ w = w' := by
  by_cases h0 : x = 0
  · subst h0
    go_enter Try.func16, Try.ntmps16
    go_wp2
    go_ret
    exact ⟨rfl, rfl⟩
  · have hb : ((x : Int) == 0) = false := by simp; omega
    have hl : Nat.log2 x < 32 := (Nat.log2_lt h0).2 hx
    have hy := lgy_lo h0 hx
    go_enter Try.func16, Try.ntmps16
    go_wp2
    go_loop [3] (fun n => ∃ k : Nat, k ≤ Nat.log2 x ∧ n = .int .u32 k) (fun n => Nat.log2 x - (intOf n).toNat)
    case atStart => exact ⟨0, Nat.zero_le _, rfl⟩
    case round =>
      obtain ⟨k, hk, rfl⟩ := hrel
      by_cases hlt : k < Nat.log2 x
      · have hg : decide ((1:Int) < (x : Int) / 2 ^ k) = true := decide_eq_true (by have := (shr_gt (n := k) h0).2 hlt; exact_mod_cast this)
        go_wp2
        go_round
        case rel => exact ⟨k + 1, by omega, by simp⟩
        case measure => simp [intOf]; omega
      · have hg : decide ((1:Int) < (x : Int) / 2 ^ k) = false := decide_eq_false (by have := mt (shr_gt (n := k) h0).1 hlt; exact_mod_cast this)
        obtain rfl : k = Nat.log2 x := by omega
        go_wp2
        have e1 : IntKind.u64.wrap ((x : Int) * 2 ^ (31 - Nat.log2 x)) = (lgy x : Int) := by
          have e2 : (x : Int) * 2 ^ (31 - Nat.log2 x) = (lgy x : Int) := by unfold lgy; push_cast; rfl
          rw [e2]; exact IntWalk.u64_in _ (by omega)
        have E1 := Lib.hid e1
        clear e1
        go_loop [4, 5, 20] (fun y o i => ∃ j : Nat, j ≤ 16 ∧ i = .int .i64 j ∧ y = .int .u64 (liter (lgy x) j).1 ∧ o = .int .u32 (Nat.log2 x * 2 ^ j + (liter (lgy x) j).2 : Nat)) (fun _ _ i => 16 - (intOf i).toNat)
        case atStart => exact ⟨0, by omega, rfl, by rw [E1.out]; rfl, by simp [liter]⟩
        case round =>
          clear E1
          obtain ⟨j, hj, rfl, rfl, rfl⟩ := hrel
          by_cases hlt2 : j < 16
          · have hr := liter_rng hy.1 hy.2 j
            have h2 := liter_two (lgy x) j
            have hp : (2:Nat) ^ j ≤ 32768 := by
              have := Nat.pow_le_pow_right (show 0 < 2 by decide) (show j ≤ 15 by omega); omega
            obtain ⟨y, hyy⟩ : ∃ y, (liter (lgy x) j).1 = y := ⟨_, rfl⟩
            obtain ⟨f, hf⟩ : ∃ f, (liter (lgy x) j).2 = f := ⟨_, rfl⟩
            have hst : liter (lgy x) (j + 1) = lstep (y, f) := by rw [← hyy, ← hf]; rfl
            obtain ⟨q, hq⟩ : ∃ q, Nat.log2 x * 2 ^ j = q := ⟨_, rfl⟩
            have hq2 : Nat.log2 x * 2 ^ (j + 1) = 2 * q := by rw [Nat.pow_succ, ← hq]; rw [← Nat.mul_assoc, Nat.mul_comm]
            have hqb : q ≤ 31 * 32768 := by rw [← hq]; exact Nat.mul_le_mul (by omega) hp
            rw [hyy] at hr
            rw [hf] at h2
            rw [hyy, hf, hq]
            have hm : y * y ≤ 4294967295 * 4294967295 := Nat.mul_le_mul (by omega) (by omega)
            have hm1 : (y : Int) * y ≤ 18446744065119617025 := by omega
            have hm0 : 0 ≤ (y : Int) * y := by omega
            have HS := Lib.hid hst; have HQ := Lib.hid hq2; have HY := Lib.hid hyy; have HF := Lib.hid hf; have HQ0 := Lib.hid hq
            clear hst hq2 hyy hf hq hg
            by_cases hbig : 4294967296 ≤ y * y / 2147483648
            · have hg2 : decide ((4294967296:Int) ≤ (y : Int) * y / 2147483648) = true := decide_eq_true (by omega)
              go_wp2
              go_round
              case rel => exact ⟨j + 1, by omega, by simp, by rw [HS.out, lstep, if_pos hbig]; rfl, by rw [or_one _ _ (by omega), HQ.out, HS.out, lstep, if_pos hbig]; exact congrArg (Value.int IntKind.u32) (by push_cast; omega)⟩
              case measure => simp [intOf]; omega
            · have hg2 : decide ((4294967296:Int) ≤ (y : Int) * y / 2147483648) = false := decide_eq_false (by omega)
              go_wp2
              go_round
              case rel => exact ⟨j + 1, by omega, by simp, by rw [HS.out, lstep, if_neg hbig]; rfl, by rw [HQ.out, HS.out, lstep, if_neg hbig]; exact congrArg (Value.int IntKind.u32) (by push_cast; omega)⟩
              case measure => simp [intOf]; omega
          · obtain rfl : j = 16 := by omega
            go_wp2
            go_ret
            exact ⟨by unfold logN; rw [if_neg h0]; rfl, rfl⟩
set_option maxRecDepth 100000 in
set_option maxHeartbeats 2000000 in
theorem rlog_any (x : Nat) (hx : x < 4294967296) (w : World) :
    Calls Try.prog 17 #[.int .u32 x] w fun e w' => e = .returned (.int .u32 (logN x)) ∧ w = w' := by
  by_cases h0 : x = 0
  · subst h0
    go_enter Try.func17, Try.ntmps17
    go_wp2
    go_ret
    exact ⟨rfl, rfl⟩
  · have hb : ((x : Int) == 0) = false := by simp; omega
    have hl : Nat.log2 x < 32 := (Nat.log2_lt h0).2 hx
    have hy := lgy_lo h0 hx
    go_enter Try.func17, Try.ntmps17
    go_wp2
    go_loop [3] (fun n => ∃ k : Nat, k ≤ Nat.log2 x ∧ n = .int .u32 k) (fun n => Nat.log2 x - (intOf n).toNat)
    case atStart => exact ⟨0, Nat.zero_le _, rfl⟩
    case round =>
      obtain ⟨k, hk, rfl⟩ := hrel
      by_cases hlt : k < Nat.log2 x
      · have hg : decide ((1:Int) < (x : Int) / 2 ^ k) = true := decide_eq_true (by have := (shr_gt (n := k) h0).2 hlt; exact_mod_cast this)
        go_wp2
        go_round
        case rel => exact ⟨k + 1, by omega, by simp⟩
        case measure => simp [intOf]; omega
      · have hg : decide ((1:Int) < (x : Int) / 2 ^ k) = false := decide_eq_false (by have := mt (shr_gt (n := k) h0).1 hlt; exact_mod_cast this)
        obtain rfl : k = Nat.log2 x := by omega
        go_wp2
        have e1 : IntKind.u64.wrap ((x : Int) * 2 ^ (31 - Nat.log2 x)) = (lgy x : Int) := by
          have e2 : (x : Int) * 2 ^ (31 - Nat.log2 x) = (lgy x : Int) := by unfold lgy; push_cast; rfl
          rw [e2]; exact IntWalk.u64_in _ (by omega)
        have E1 := Lib.hid e1
        clear e1
        go_loop [4, 5, 6] (fun y o i => ∃ j : Nat, j ≤ 16 ∧ i = .int .i64 j ∧ y = .int .u64 (liter (lgy x) j).1 ∧ o = .int .u32 ((liter (lgy x) j).2 : Nat)) (fun _ _ i => 16 - (intOf i).toNat)
        case atStart => exact ⟨0, by omega, rfl, by rw [E1.out]; rfl, by simp [liter]⟩
        case round =>
          clear E1
          obtain ⟨j, hj, rfl, rfl, rfl⟩ := hrel
          by_cases hlt2 : j < 16
          · have hr := liter_rng hy.1 hy.2 j
            have h2 := liter_two (lgy x) j
            have hp : (2:Nat) ^ j ≤ 32768 := by
              have := Nat.pow_le_pow_right (show 0 < 2 by decide) (show j ≤ 15 by omega); omega
            obtain ⟨y, hyy⟩ : ∃ y, (liter (lgy x) j).1 = y := ⟨_, rfl⟩
            obtain ⟨f, hf⟩ : ∃ f, (liter (lgy x) j).2 = f := ⟨_, rfl⟩
            have hst : liter (lgy x) (j + 1) = lstep (y, f) := by rw [← hyy, ← hf]; rfl
            obtain ⟨q, hq⟩ : ∃ q, Nat.log2 x * 2 ^ j = q := ⟨_, rfl⟩
            have hq2 : Nat.log2 x * 2 ^ (j + 1) = 2 * q := by rw [Nat.pow_succ, ← hq]; rw [← Nat.mul_assoc, Nat.mul_comm]
            have hqb : q ≤ 31 * 32768 := by rw [← hq]; exact Nat.mul_le_mul (by omega) hp
            rw [hyy] at hr
            rw [hf] at h2
            rw [hyy, hf]
            have hm : y * y ≤ 4294967295 * 4294967295 := Nat.mul_le_mul (by omega) (by omega)
            have hm1 : (y : Int) * y ≤ 18446744065119617025 := by omega
            have hm0 : 0 ≤ (y : Int) * y := by omega
            have HS := Lib.hid hst; have HQ := Lib.hid hq2; have HY := Lib.hid hyy; have HF := Lib.hid hf; have HQ0 := Lib.hid hq
            clear hst hq2 hyy hf hq hg
            by_cases hbig : 4294967296 ≤ y * y / 2147483648
            · have hg2 : decide ((4294967296:Int) ≤ (y : Int) * y / 2147483648) = true := decide_eq_true (by omega)
              go_wp2
              go_round
              case rel => exact ⟨j + 1, by omega, by simp, by rw [HS.out, lstep, if_pos hbig]; rfl, by rw [HS.out, lstep, if_pos hbig]; exact congrArg (Value.int IntKind.u32) (by push_cast; omega)⟩
              case measure => simp [intOf]; omega
            · have hg2 : decide ((4294967296:Int) ≤ (y : Int) * y / 2147483648) = false := decide_eq_false (by omega)
              go_wp2
              go_round
              case rel => exact ⟨j + 1, by omega, by simp, by rw [HS.out, lstep, if_neg hbig]; rfl, by rw [HS.out, lstep, if_neg hbig]; exact congrArg (Value.int IntKind.u32) (by push_cast; omega)⟩
              case measure => simp [intOf]; omega
          · obtain rfl : j = 16 := by omega
            have hf2 := liter_two (lgy x) 16
            obtain ⟨f, hf⟩ : ∃ f, (liter (lgy x) 16).2 = f := ⟨_, rfl⟩
            rw [hf] at hf2 ⊢
            have HF := Lib.hid hf
            clear hf
            go_wp2
            go_ret
            exact ⟨by unfold logN; rw [if_neg h0, HF.out]; rfl, rfl⟩
end Go.Proofs.Ythfeigheeloeaaa.Logs
