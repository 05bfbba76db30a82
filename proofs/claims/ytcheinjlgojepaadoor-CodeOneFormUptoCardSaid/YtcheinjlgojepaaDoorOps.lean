-- left of the seat's texts by prune.py, a program of this session
import Derived.Test.YtcheinjlgojepaaDoorOpen
import Derived.Test.YtcheinjlgojepaaDoorP0
namespace Go.Proofs.YtcheinjlgojepaaDoor.P
open Go.RowKit Go.Proofs.YtcheinjlgojepaaDoor.Open Go.Proofs.YtcheinjlgojepaaDoorW.PrintWords Go.Proofs.YtcheinjlgojepaaDoorW.PrintLast
def G29 (x : S29) : Prop := (fun n => (Lit.int .i64 n).wf = true) x.f0 ∧ ((fun n => (Lit.int .i64 n).wf = true) x.f1 ∧ ((fun s => s.size ≤ 140737488351232) x.f2 ∧ ((fun _ => True) x.f3)))
def G31 (xs : List (Int)) : Prop := xs.length ≤ 9223372036854775807 ∧ xs.length * 1 ≤ 140737488351232 ∧ ∀ x ∈ xs, (fun n => (Lit.int .u8 n).wf = true) x
def G37 (xs : List (Int)) : Prop := xs.length ≤ 9223372036854775807 ∧ xs.length * 8 ≤ 140737488351232 ∧ ∀ x ∈ xs, (fun n => (Lit.int .i64 n).wf = true) x
end Go.Proofs.YtcheinjlgojepaaDoor.P
namespace Go.Proofs.YtcheinjlgojepaaDoor.P
open Go.RowKit Go.Proofs.YtcheinjlgojepaaDoor.Open Go.Proofs.YtcheinjlgojepaaDoor.OpenU Go.Proofs.YtcheinjlgojepaaDoorW.PrintWords Go.Proofs.YtcheinjlgojepaaDoorW.PrintLast
def B31 : List (Int) → Nat := fun z => (fun xs => (List.map (fun _ => 1) xs).sum + 1) z
theorem opu31 : OpensB Tryd.prog 31 (Kd.slice 5 (Kd.int .u8)) G31 B31 := (opensB_slice Tryd.underlying31 (by kernel_rfl) (by kernel_rfl) (opensB_any (opens_int Tryd.underlying5)))
def B37 : List (Int) → Nat := fun z => (fun xs => (List.map (fun _ => 1) xs).sum + 1) z
theorem opu37 : OpensB Tryd.prog 37 (Kd.slice 3 (Kd.int .i64)) G37 B37 := (opensB_slice Tryd.underlying37 (by kernel_rfl) (by kernel_rfl) (opensB_any (opens_int Tryd.underlying3)))
end Go.Proofs.YtcheinjlgojepaaDoor.P
