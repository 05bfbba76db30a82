/- The seat's own types, opened. -/
import Derived.Test.YtkbdicedckmdkaaOpen
import Derived.Test.YtkbdicedckmdkaaP0
namespace Go.Proofs.Ytkbdicedckmdkaa.P
open Go.RowKit Go.Proofs.Ytkbdicedckmdkaa.Open Go.Proofs.YtkbdicedckmdkaaW.PrintWords Go.Proofs.YtkbdicedckmdkaaW.PrintLast

def G35 (x : S35) : Prop := (fun n => (Lit.int .i64 n).wf = true) x.f0 ∧ ((fun n => (Lit.int .i64 n).wf = true) x.f1 ∧ ((fun n => (Lit.int .i64 n).wf = true) x.f2))
theorem op35 : Opens Try.prog 35 k35 G35 := opens_iso (opens_struct Try.underlying35 (by kernel_rfl) (opensFs_cons rfl (by kernel_rfl) (opens_int Try.underlying3) (opensFs_cons rfl (by kernel_rfl) (opens_int Try.underlying3) (opensFs_one rfl (by kernel_rfl) (opens_int Try.underlying3))))) (fun x : S35 => (x.f0, x.f1, x.f2)) (fun a => ⟨a.1, a.2.1, a.2.2⟩) (fun _ => rfl)
def G22 (xs : List (S35)) : Prop := xs.length ≤ 9223372036854775807 ∧ xs.length * 24 ≤ 140737488351232 ∧ ∀ x ∈ xs, G35 x
theorem op22 : Opens Try.prog 22 (Kd.slice 35 k35) G22 := opens_slice Try.underlying22 (by kernel_rfl) (by kernel_rfl) op35
def G24 (x : S24) : Prop := (fun n => (Lit.int .i64 n).wf = true) x.f0 ∧ ((fun n => (Lit.int .i64 n).wf = true) x.f1)
theorem op24 : Opens Try.prog 24 k24 G24 := opens_iso (opens_struct Try.underlying24 (by kernel_rfl) (opensFs_cons rfl (by kernel_rfl) (opens_int Try.underlying2) (opensFs_one rfl (by kernel_rfl) (opens_int Try.underlying3)))) (fun x : S24 => (x.f0, x.f1)) (fun a => ⟨a.1, a.2⟩) (fun _ => rfl)
def G25 (xs : List (ByteArray)) : Prop := xs.length ≤ 9223372036854775807 ∧ xs.length * 16 ≤ 140737488351232 ∧ ∀ x ∈ xs, (fun s => s.size ≤ 140737488351232) x
theorem op25 : Opens Try.prog 25 (Kd.slice 9 Kd.string) G25 := opens_slice Try.underlying25 (by kernel_rfl) (by kernel_rfl) (opens_string Try.underlying9)
def G27 (x : S27) : Prop := G24 x.f0 ∧ ((fun _ => True) x.f1 ∧ (G24 x.f2 ∧ ((fun s => s.size ≤ 140737488351232) x.f3 ∧ (G25 x.f4))))
theorem op27 : Opens Try.prog 27 k27 G27 := opens_iso (opens_struct Try.underlying27 (by kernel_rfl) (opensFs_cons rfl (by kernel_rfl) op24 (opensFs_cons rfl (by kernel_rfl) (opens_bool Try.underlying4) (opensFs_cons rfl (by kernel_rfl) op24 (opensFs_cons rfl (by kernel_rfl) (opens_string Try.underlying9) (opensFs_one rfl (by kernel_rfl) op25)))))) (fun x : S27 => (x.f0, x.f1, x.f2, x.f3, x.f4)) (fun a => ⟨a.1, a.2.1, a.2.2.1, a.2.2.2.1, a.2.2.2.2⟩) (fun _ => rfl)
def G63 (x : S63) : Prop := (fun n => (Lit.int .i64 n).wf = true) x.f0 ∧ (G24 x.f1 ∧ ((fun n => (Lit.int .i64 n).wf = true) x.f2 ∧ ((fun s => s.size ≤ 140737488351232) x.f3 ∧ (G25 x.f4))))
theorem op63 : Opens Try.prog 63 k63 G63 := opens_iso (opens_struct Try.underlying63 (by kernel_rfl) (opensFs_cons rfl (by kernel_rfl) (opens_int Try.underlying3) (opensFs_cons rfl (by kernel_rfl) op24 (opensFs_cons rfl (by kernel_rfl) (opens_int Try.underlying2) (opensFs_cons rfl (by kernel_rfl) (opens_string Try.underlying9) (opensFs_one rfl (by kernel_rfl) op25)))))) (fun x : S63 => (x.f0, x.f1, x.f2, x.f3, x.f4)) (fun a => ⟨a.1, a.2.1, a.2.2.1, a.2.2.2.1, a.2.2.2.2⟩) (fun _ => rfl)
def G61 (xs : List (S63)) : Prop := xs.length ≤ 9223372036854775807 ∧ xs.length * 72 ≤ 140737488351232 ∧ ∀ x ∈ xs, G63 x
theorem op61 : Opens Try.prog 61 (Kd.slice 63 k63) G61 := opens_slice Try.underlying61 (by kernel_rfl) (by kernel_rfl) op63
end Go.Proofs.Ytkbdicedckmdkaa.P
