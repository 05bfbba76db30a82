-- left of the seat's texts by prune.py, a program of this session
import Derived.Test.YtpdpjcpmpppadaaP24
namespace Go.Proofs.Ytpdpjcpmpppadaa.Pure
open Go.RowKit Go.Proofs.Ytpdpjcpmpppadaa.P Go.Proofs.YtpdpjcpmpppadaaW.PrintWords Go.Proofs.YtpdpjcpmpppadaaW.PrintLast Go.Proofs.YtpdpjcpmpppadaaW.PrintMore
set_option linter.unusedVariables false
theorem awake_ev : Ev (fun k => reeflaw16_awake.f k) true := Ev.of (k := 8) (fun k => reeflaw16_awake.mono k) (by decide +kernel)
theorem wrap_of {x : Int} (h0 : -9223372036854775808 ≤ x) (h1 : x < 9223372036854775808) : wrap64 x = x := by unfold wrap64; omega
end Go.Proofs.Ytpdpjcpmpppadaa.Pure
