-- left of the seat's texts by prune.py, a program of this session
import Derived.Test.YtpdpjcpmpppadaaWInv
import Derived.Test.YtpdpjcpmpppadaaWFootNe
namespace Go.Proofs.YtpdpjcpmpppadaaW.PrintWords
open Go.RowKit
end Go.Proofs.YtpdpjcpmpppadaaW.PrintWords
namespace Go.Proofs.YtpdpjcpmpppadaaW.PrintLast
section
variable {ops : Array Oper} {a : Act} {o og : Oper} {g : Nat} {t : Tmp} {u : Bool}
end
end Go.Proofs.YtpdpjcpmpppadaaW.PrintLast
