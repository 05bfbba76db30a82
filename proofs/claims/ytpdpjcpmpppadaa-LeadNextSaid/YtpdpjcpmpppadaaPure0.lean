/- Plain laws of the layer 'lead' that several statements lean on. -/
import Derived.Test.YtpdpjcpmpppadaaP26
namespace Go.Proofs.Ytpdpjcpmpppadaa.Pure
open Go.RowKit Go.Proofs.Ytpdpjcpmpppadaa.P Go.Proofs.YtpdpjcpmpppadaaW.PrintWords Go.Proofs.YtpdpjcpmpppadaaW.PrintLast Go.Proofs.YtpdpjcpmpppadaaW.PrintMore
set_option linter.unusedVariables false

theorem awake_ev : Ev (fun k => reeflaw16_awake.f k) true := Ev.of (k := 8) (fun k => reeflaw16_awake.mono k) (by decide +kernel)
theorem wrap_of {x : Int} (h0 : -9223372036854775808 ≤ x) (h1 : x < 9223372036854775808) : wrap64 x = x := by unfold wrap64; omega
theorem wf_i64 {x : Int} (h : (Lit.int .i64 x).wf = true) : -9223372036854775808 ≤ x ∧ x < 9223372036854775808 := by
  simp [Lit.wf, IntKind.min, IntKind.max, IntKind.bits, IntKind.signed] at h
  omega
end Go.Proofs.Ytpdpjcpmpppadaa.Pure
