-- left of the seat's texts by prune.py, a program of this session
import Derived.Test.YtkbdicedckmdkaaOpen
import Derived.Test.YtkbdicedckmdkaaP0
namespace Go.Proofs.Ytkbdicedckmdkaa.P
open Go.RowKit Go.Proofs.Ytkbdicedckmdkaa.Open Go.Proofs.YtkbdicedckmdkaaW.PrintWords Go.Proofs.YtkbdicedckmdkaaW.PrintLast
def G24 (x : S24) : Prop := (fun n => (Lit.int .i64 n).wf = true) x.f0 ∧ ((fun n => (Lit.int .i64 n).wf = true) x.f1)
theorem op24 : Opens Try.prog 24 k24 G24 := opens_iso (opens_struct Try.underlying24 (by kernel_rfl) (opensFs_cons rfl (by kernel_rfl) (opens_int Try.underlying2) (opensFs_one rfl (by kernel_rfl) (opens_int Try.underlying3)))) (fun x : S24 => (x.f0, x.f1)) (fun a => ⟨a.1, a.2⟩) (fun _ => rfl)
def G25 (xs : List (ByteArray)) : Prop := xs.length ≤ 9223372036854775807 ∧ xs.length * 16 ≤ 140737488351232 ∧ ∀ x ∈ xs, (fun s => s.size ≤ 140737488351232) x
theorem op25 : Opens Try.prog 25 (Kd.slice 9 Kd.string) G25 := opens_slice Try.underlying25 (by kernel_rfl) (by kernel_rfl) (opens_string Try.underlying9)
def G27 (x : S27) : Prop := G24 x.f0 ∧ ((fun _ => True) x.f1 ∧ (G24 x.f2 ∧ ((fun s => s.size ≤ 140737488351232) x.f3 ∧ (G25 x.f4))))
theorem op27 : Opens Try.prog 27 k27 G27 := opens_iso (opens_struct Try.underlying27 (by kernel_rfl) (opensFs_cons rfl (by kernel_rfl) op24 (opensFs_cons rfl (by kernel_rfl) (opens_bool Try.underlying4) (opensFs_cons rfl (by kernel_rfl) op24 (opensFs_cons rfl (by kernel_rfl) (opens_string Try.underlying9) (opensFs_one rfl (by kernel_rfl) op25)))))) (fun x : S27 => (x.f0, x.f1, x.f2, x.f3, x.f4)) (fun a => ⟨a.1, a.2.1, a.2.2.1, a.2.2.2.1, a.2.2.2.2⟩) (fun _ => rfl)
end Go.Proofs.Ytkbdicedckmdkaa.P
