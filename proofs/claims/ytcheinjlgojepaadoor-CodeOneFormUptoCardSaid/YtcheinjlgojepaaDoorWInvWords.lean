-- left of the seat's texts by prune.py, a program of this session
import Derived.Test.YtcheinjlgojepaaDoorWInv
import Derived.Test.YtcheinjlgojepaaDoorWFootNe
namespace Go.Proofs.YtcheinjlgojepaaDoorW.PrintWords
open Go.RowKit
end Go.Proofs.YtcheinjlgojepaaDoorW.PrintWords
namespace Go.Proofs.YtcheinjlgojepaaDoorW.PrintLast
section
variable {ops : Array Oper} {a : Act} {o og : Oper} {g : Nat} {t : Tmp} {u : Bool}
end
end Go.Proofs.YtcheinjlgojepaaDoorW.PrintLast
