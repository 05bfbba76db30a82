/- The seat's own types, opened. -/
import Derived.Test.YtcheinjlgojepaaDoorOpen
import Derived.Test.YtcheinjlgojepaaDoorP0
namespace Go.Proofs.YtcheinjlgojepaaDoor.P
open Go.RowKit Go.Proofs.YtcheinjlgojepaaDoor.Open Go.Proofs.YtcheinjlgojepaaDoorW.PrintWords Go.Proofs.YtcheinjlgojepaaDoorW.PrintLast

def G29 (x : S29) : Prop := (fun n => (Lit.int .i64 n).wf = true) x.f0 ∧ ((fun n => (Lit.int .i64 n).wf = true) x.f1 ∧ ((fun s => s.size ≤ 140737488351232) x.f2 ∧ ((fun _ => True) x.f3)))
theorem op29 : Opens Tryd.prog 29 k29 G29 := opens_iso (opens_struct Tryd.underlying29 (by kernel_rfl) (opensFs_cons rfl (by kernel_rfl) (opens_int Tryd.underlying3) (opensFs_cons rfl (by kernel_rfl) (opens_int Tryd.underlying2) (opensFs_cons rfl (by kernel_rfl) (opens_string Tryd.underlying9) (opensFs_one rfl (by kernel_rfl) (opens_bool Tryd.underlying4)))))) (fun x : S29 => (x.f0, x.f1, x.f2, x.f3)) (fun a => ⟨a.1, a.2.1, a.2.2.1, a.2.2.2⟩) (fun _ => rfl)
def G26 (xs : List (S29)) : Prop := xs.length ≤ 9223372036854775807 ∧ xs.length * 40 ≤ 140737488351232 ∧ ∀ x ∈ xs, G29 x
theorem op26 : Opens Tryd.prog 26 (Kd.slice 29 k29) G26 := opens_slice Tryd.underlying26 (by kernel_rfl) (by kernel_rfl) op29
def G31 (xs : List (Int)) : Prop := xs.length ≤ 9223372036854775807 ∧ xs.length * 1 ≤ 140737488351232 ∧ ∀ x ∈ xs, (fun n => (Lit.int .u8 n).wf = true) x
theorem op31 : Opens Tryd.prog 31 (Kd.slice 5 (Kd.int .u8)) G31 := opens_slice Tryd.underlying31 (by kernel_rfl) (by kernel_rfl) (opens_int Tryd.underlying5)
def G37 (xs : List (Int)) : Prop := xs.length ≤ 9223372036854775807 ∧ xs.length * 8 ≤ 140737488351232 ∧ ∀ x ∈ xs, (fun n => (Lit.int .i64 n).wf = true) x
theorem op37 : Opens Tryd.prog 37 (Kd.slice 3 (Kd.int .i64)) G37 := opens_slice Tryd.underlying37 (by kernel_rfl) (by kernel_rfl) (opens_int Tryd.underlying3)
end Go.Proofs.YtcheinjlgojepaaDoor.P
