-- left of the seat's texts by prune.py, a program of this session
import Derived.Test.YtcheinjlgojepaaDoorWTab
namespace Go.Proofs.YtcheinjlgojepaaDoorW.PrintLast
section
variable {P : Program} {ops : Array Oper} {Q : Exit → Act → World → Prop} {md : Region.Mode} {T : Bool × List (List Nat × List Nat)} {B : List Nat} {O : List Nat} {b : Nat → Bool} {i j n : Nat}
end
end Go.Proofs.YtcheinjlgojepaaDoorW.PrintLast
