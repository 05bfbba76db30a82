/- slices.ContainsFunc of the texts that are no values. -/
import Derived.Test.YtkbdicedckmdkaaP3
namespace Go.Proofs.Ytkbdicedckmdkaa.P
open Go.RowKit Go.Proofs.YtkbdicedckmdkaaW.PrintWords Go.Proofs.YtkbdicedckmdkaaW.PrintLast Go.Proofs.YtkbdicedckmdkaaW.PrintMore
set_option linter.unusedVariables false
set_option linter.unusedSimpArgs false

def isVal (s : ByteArray) : Bool := (accept_value.f s).getD false
theorem isVal_some (s : ByteArray) : accept_value.f s = some (isVal s) := by
  unfold isVal accept_value.f; repeat' split
  all_goals rfl
theorem notval_calls (s : ByteArray) (w : World) : Calls Try.prog 36 #[.string s] w fun e w' => e = .returned (.bool (!isVal s)) ∧ Below w.heap.size w w' := by
  have H := Aside0.mk (isVal_some s)
  go_enter Try.func36, Try.ntmps36
  go_wp2_with (go_at_call 30; refine (accept_value.calls s _ _ H.out).mono ?_; rintro e w' ⟨rfl, hd⟩)
  go_ret
  exact ⟨rfl, by first | exact hd | exact hd.below⟩
set_option maxHeartbeats 4000000 in
set_option maxRecDepth 100000 in
theorem indexNot_calls (A0 : Option Addr) (c0 : Nat) (l0 : List ByteArray) (w : World) (hr0 : Kd.C Kd.string w A0 l0.length l0) (hc0 : l0.length ≤ c0) :
    Calls Try.prog 40 #[.slice A0 l0.length c0, .func (.func 36) #[] #[]] w fun e w' => (∃ r : Int, e = .returned (.int .i64 r) ∧ (decide (0 ≤ r) = l0.any fun s => !isVal s)) ∧ Below w.heap.size w w' := by
  have HR := Aside0.mk hr0
  have hm := Kd.C_max hr0
  clear hr0
  go_enter Try.func40, Try.ntmps40
  go_wp2
  go_loopw [8] (fun i wr => ∃ k : Nat, k ≤ l0.length ∧ i = .int .i64 (k : Int) ∧ Aside0 (((l0.take k).any fun s => !isVal s) = false) ∧ Aside0 (Below w.heap.size w wr)) (fun i _ => l0.length - (intOf i).toNat)
  case atStart => exact ⟨0, Nat.zero_le _, rfl, ⟨by simp⟩, ⟨Below.refl _ _⟩⟩
  case round =>
    obtain ⟨k, hk, rfl, HA, HB⟩ := hrel
    by_cases hlt : k < l0.length
    · obtain ⟨ad, e0, x0⟩ := Kd.at_string HR.out (k : Int) (by omega) (by omega)
      cases e0
      replace x0 := (HB.out.cell (World.block_lt_of_cell? w _ x0)).trans x0
      simp only [Int.toNat_natCast] at x0
      have hx : rdOf ByteArray.empty l0 (k : Int) = l0[k] := by simp [rdOf, hlt]
      rw [hx] at x0
      have hs : ((l0.take (k + 1)).any fun s => !isVal s) = !isVal l0[k] := by
        rw [List.take_succ_eq_append_getElem hlt, List.any_append, HA.out]; simp
      have HS := Aside0.mk hs
      clear hs hx
      have hend : ∀ W, Below w.heap.size w W → isVal l0[k] = false → (∃ r : Int, Ending.returned (.int .i64 (k : Int)) = .returned (.int .i64 r) ∧ (decide (0 ≤ r) = l0.any fun s => !isVal s)) ∧ Below w.heap.size w W := fun W hW hv => by
        refine ⟨⟨k, rfl, ?_⟩, hW⟩
        have h1 : (l0.any fun s => !isVal s) = true := List.any_eq_true.2 ⟨l0[k], List.getElem_mem hlt, by rw [hv]; rfl⟩
        rw [h1]
        exact decide_eq_true (by omega)
      have HE := Aside0.mk hend
      clear hend
      cases hv : isVal l0[k] with
      | true =>
        have HV := Aside0.mk hv
        have hc : ∀ W, Calls Try.prog 36 #[.string l0[k]] W fun e w' => e = .returned (.bool false) ∧ Below W.heap.size W w' := fun W => by have := notval_calls l0[k] W; rw [HV.out] at this; exact this
        have HCC := Aside0.mk hc
        clear hv hc
        go_wp2_with (go_at_call 36; refine (HCC.out _).mono ?_; rintro e w' ⟨rfl, hd⟩; have HB2 := Aside0.mk (HB.out.trans (hd.mono HB.out.size)); clear hd)
        go_roundw
        case rel => exact ⟨k + 1, by omega, by simp, ⟨by rw [HS.out, HV.out]; rfl⟩, HB2⟩
        case measure => simp [intOf]; omega
      | false =>
        have HV := Aside0.mk hv
        have hc : ∀ W, Calls Try.prog 36 #[.string l0[k]] W fun e w' => e = .returned (.bool true) ∧ Below W.heap.size W w' := fun W => by have := notval_calls l0[k] W; rw [HV.out] at this; exact this
        have HCC := Aside0.mk hc
        clear hv hc
        go_wp2_with (go_at_call 36; refine (HCC.out _).mono ?_; rintro e w' ⟨rfl, hd⟩; have HB2 := Aside0.mk (HB.out.trans (hd.mono HB.out.size)); clear hd)
        go_ret
        exact HE.out _ HB2.out HV.out
    · obtain rfl : k = l0.length := by omega
      have HA2 := Aside0.mk ((by have := HA.out; rw [List.take_length] at this; exact this) : (l0.any fun s => !isVal s) = false)
      go_wp2
      go_ret
      exact ⟨⟨-1, rfl, by rw [HA2.out]; rfl⟩, HB.out⟩
def slices_ContainsFunc_string_string.f (l0 : List ByteArray) : Option (Bool) := some (l0.any fun s => !isVal s)
theorem slices_ContainsFunc_string_string.calls (A0 : Option Addr) (c0 : Nat) (l0 : List ByteArray) (r : Bool) (w : World) (hr0 : Kd.C Kd.string w A0 l0.length l0) (hc0 : l0.length ≤ c0) (h : slices_ContainsFunc_string_string.f l0 = some r) :
    Calls Try.prog 35 #[.slice A0 l0.length c0, .func (.func 36) #[] #[]] w fun e w' => e = .returned (.bool r) ∧ Below w.heap.size w w' := by
  obtain rfl := Option.some.inj h
  have HC := Aside0.mk (indexNot_calls A0 c0 l0 w hr0 hc0)
  clear h hr0
  go_enter Try.func35, Try.ntmps35
  go_wp2_with (go_at_call 40; refine HC.out.mono ?_; rintro e w' ⟨⟨q, rfl, hq⟩, hd⟩; have HQ := Aside0.mk hq; clear hq)
  go_ret
  exact ⟨by rw [← HQ.out]; rfl, hd⟩
end Go.Proofs.Ytkbdicedckmdkaa.P
