/- strconv.Itoa of one digit (what the examples of chapter 28 need). -/
import Derived.Test.YteajaofcgcgodaaDoorP0
namespace Go.Proofs.YteajaofcgcgodaaDoor.P
open Go.RowKit Go.Proofs.YteajaofcgcgodaaDoorW.PrintWords Go.Proofs.YteajaofcgcgodaaDoorW.PrintLast Go.Proofs.YteajaofcgcgodaaDoorW.PrintMore
set_option linter.unusedVariables false
set_option linter.unusedSimpArgs false

def digitS (i : Nat) : ByteArray := (⟨#[48, 49, 50, 51, 52, 53, 54, 55, 56, 57, 97, 98, 99, 100, 101, 102, 103, 104, 105, 106, 107, 108, 109, 110, 111, 112, 113, 114, 115, 116, 117, 118, 119, 120, 121, 122]⟩ : ByteArray).extract i (i + 1)
def strconv_Itoa_40.f (a0 : Int) : Option (ByteArray) := if 0 ≤ a0 ∧ a0 < 10 then some (digitS a0.toNat) else none
set_option maxHeartbeats 4000000 in
set_option maxRecDepth 100000 in
theorem small_calls0 (n : Int) (h0 : 0 ≤ n) (hi : n < 10) (w : World) : Calls Tryd.prog 61 #[.int .i64 n] w fun e w' => e = .returned (.string ((⟨#[48, 49, 50, 51, 52, 53, 54, 55, 56, 57, 97, 98, 99, 100, 101, 102, 103, 104, 105, 106, 107, 108, 109, 110, 111, 112, 113, 114, 115, 116, 117, 118, 119, 120, 121, 122]⟩ : ByteArray).extract (n : Int).toNat (wrap64 (n + 1)).toNat)) ∧ Drawn0 w w' := by
  have h10 : decide (n < 10) = true := decide_eq_true hi
  have hw : wrap64 (n + 1) = n + 1 := by unfold wrap64; omega
  have b1 := eq_true h0
  have b1' : decide (0 ≤ n) = true := decide_eq_true h0
  have b2 := eq_true (show n ≤ wrap64 (n + 1) by omega)
  have b2' : decide (n ≤ wrap64 (n + 1)) = true := decide_eq_true (by omega)
  have b3 := eq_true (show wrap64 (n + 1) ≤ 36 by omega)
  have b3' : decide (wrap64 (n + 1) ≤ 36) = true := decide_eq_true (by omega)
  clear hw hi h0
  go_enter Tryd.func61, Tryd.ntmps61
  go_wp2
  go_ret
  exact ⟨rfl, Drawn0.refl _⟩
theorem small_calls (i : Nat) (hi : i < 10) (w : World) : Calls Tryd.prog 61 #[.int .i64 (i : Int)] w fun e w' => e = .returned (.string (digitS i)) ∧ Below w.heap.size w w' := by
  have hw : wrap64 ((i : Int) + 1) = (i : Int) + 1 := by unfold wrap64; omega
  refine (small_calls0 (i : Int) (by omega) (by omega) w).mono fun e w' ⟨he, hd⟩ => ⟨?_, hd.below⟩
  rw [he, hw]
  rfl
theorem format_calls (i : Nat) (hi : i < 10) (w : World) : Calls Tryd.prog 53 #[.int .i64 (i : Int), .int .i64 10] w fun e w' => e = .returned (.string (digitS i)) ∧ Below w.heap.size w w' := by
  have b1 : decide (0 ≤ (i : Int)) = true := decide_eq_true (by omega)
  have b2 : decide ((i : Int) < 100) = true := decide_eq_true (by omega)
  go_enter Tryd.func53, Tryd.ntmps53
  go_wp2_with (go_at_call 61; refine (small_calls i hi _).mono ?_; rintro e w' ⟨rfl, hb⟩)
  go_ret
  exact ⟨rfl, hb⟩
theorem itoa46_calls (i : Nat) (hi : i < 10) (w : World) : Calls Tryd.prog 46 #[.int .i64 (i : Int)] w fun e w' => e = .returned (.string (digitS i)) ∧ Below w.heap.size w w' := by
  go_enter Tryd.func46, Tryd.ntmps46
  go_wp2_with (go_at_call 53; refine (format_calls i hi _).mono ?_; rintro e w' ⟨rfl, hb⟩)
  go_ret
  exact ⟨rfl, hb⟩
theorem strconv_Itoa_40.calls (a0 : Int) (r : ByteArray) (w : World) (h : strconv_Itoa_40.f a0 = some r) :
    Calls Tryd.prog 40 #[.int .i64 a0] w fun e w' => e = .returned (.string r) ∧ Below w.heap.size w w' := by
  unfold strconv_Itoa_40.f at h
  split at h
  · rename_i hr
    cases h
    obtain ⟨i, rfl⟩ := Int.eq_ofNat_of_zero_le hr.1
    go_enter Tryd.func40, Tryd.ntmps40
    go_wp2_with (go_at_call 46; refine (itoa46_calls i (by omega) _).mono ?_; rintro e w' ⟨rfl, hb⟩)
    go_ret
    exact ⟨rfl, hb⟩
  · cases h
end Go.Proofs.YteajaofcgcgodaaDoor.P
