/- The seat's own types, opened. -/
import Derived.Test.YteajaofcgcgodaaDoorOpen
import Derived.Test.YteajaofcgcgodaaDoorP0
namespace Go.Proofs.YteajaofcgcgodaaDoor.P
open Go.RowKit Go.Proofs.YteajaofcgcgodaaDoor.Open Go.Proofs.YteajaofcgcgodaaDoorW.PrintWords Go.Proofs.YteajaofcgcgodaaDoorW.PrintLast

def G23 (x : S23) : Prop := (fun n => (Lit.int .i64 n).wf = true) x.f0 ∧ ((fun n => (Lit.int .i64 n).wf = true) x.f1 ∧ ((fun n => (Lit.int .i64 n).wf = true) x.f2))
theorem op23 : Opens Tryd.prog 23 k23 G23 := opens_iso (opens_struct Tryd.underlying23 (by kernel_rfl) (opensFs_cons rfl (by kernel_rfl) (opens_int Tryd.underlying2) (opensFs_cons rfl (by kernel_rfl) (opens_int Tryd.underlying2) (opensFs_one rfl (by kernel_rfl) (opens_int Tryd.underlying2))))) (fun x : S23 => (x.f0, x.f1, x.f2)) (fun a => ⟨a.1, a.2.1, a.2.2⟩) (fun _ => rfl)
def G51 (x : S51) : Prop := (fun n => (Lit.int .i64 n).wf = true) x.f0 ∧ ((fun n => (Lit.int .i64 n).wf = true) x.f1 ∧ ((fun n => (Lit.int .i64 n).wf = true) x.f2 ∧ ((fun n => (Lit.int .i64 n).wf = true) x.f3)))
theorem op51 : Opens Tryd.prog 51 k51 G51 := opens_iso (opens_struct Tryd.underlying51 (by kernel_rfl) (opensFs_cons rfl (by kernel_rfl) (opens_int Tryd.underlying3) (opensFs_cons rfl (by kernel_rfl) (opens_int Tryd.underlying2) (opensFs_cons rfl (by kernel_rfl) (opens_int Tryd.underlying2) (opensFs_one rfl (by kernel_rfl) (opens_int Tryd.underlying2)))))) (fun x : S51 => (x.f0, x.f1, x.f2, x.f3)) (fun a => ⟨a.1, a.2.1, a.2.2.1, a.2.2.2⟩) (fun _ => rfl)
def G26 (xs : List (S51)) : Prop := xs.length ≤ 9223372036854775807 ∧ xs.length * 32 ≤ 140737488351232 ∧ ∀ x ∈ xs, G51 x
theorem op26 : Opens Tryd.prog 26 (Kd.slice 51 k51) G26 := opens_slice Tryd.underlying26 (by kernel_rfl) (by kernel_rfl) op51
def G45 (xs : List (ByteArray)) : Prop := xs.length ≤ 9223372036854775807 ∧ xs.length * 16 ≤ 140737488351232 ∧ ∀ x ∈ xs, (fun s => s.size ≤ 140737488351232) x
theorem op45 : Opens Tryd.prog 45 (Kd.slice 9 Kd.string) G45 := opens_slice Tryd.underlying45 (by kernel_rfl) (by kernel_rfl) (opens_string Tryd.underlying9)
end Go.Proofs.YteajaofcgcgodaaDoor.P
