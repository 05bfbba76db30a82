-- left of the seat's texts by prune.py, a program of this session
import Derived.Test.YtkbdicedckmdkaaWInv
import Derived.Test.YtkbdicedckmdkaaWFootNe
namespace Go.Proofs.YtkbdicedckmdkaaW.PrintWords
open Go.RowKit
end Go.Proofs.YtkbdicedckmdkaaW.PrintWords
namespace Go.Proofs.YtkbdicedckmdkaaW.PrintLast
section
variable {ops : Array Oper} {a : Act} {o og : Oper} {g : Nat} {t : Tmp} {u : Bool}
end
end Go.Proofs.YtkbdicedckmdkaaW.PrintLast
