-- left of the seat's texts by prune.py, a program of this session
import Derived.Test.YtpdpjcpmpppadaaOpen
import Derived.Test.YtpdpjcpmpppadaaP0
namespace Go.Proofs.Ytpdpjcpmpppadaa.P
open Go.RowKit Go.Proofs.Ytpdpjcpmpppadaa.Open Go.Proofs.YtpdpjcpmpppadaaW.PrintWords Go.Proofs.YtpdpjcpmpppadaaW.PrintLast
def G23 (x : S23) : Prop := (fun n => (Lit.int .i64 n).wf = true) x.f0 ∧ ((fun n => (Lit.int .i64 n).wf = true) x.f1)
theorem op23 : Opens Try.prog 23 k23 G23 := opens_iso (opens_struct Try.underlying23 (by kernel_rfl) (opensFs_cons rfl (by kernel_rfl) (opens_int Try.underlying2) (opensFs_one rfl (by kernel_rfl) (opens_int Try.underlying3)))) (fun x : S23 => (x.f0, x.f1)) (fun a => ⟨a.1, a.2⟩) (fun _ => rfl)
def G39 (x : S39) : Prop := (fun n => (Lit.int .i64 n).wf = true) x.f0 ∧ ((fun n => (Lit.int .i64 n).wf = true) x.f1 ∧ ((fun _ => True) x.f2 ∧ (G23 x.f3 ∧ ((fun s => s.size ≤ 140737488351232) x.f4))))
theorem op39 : Opens Try.prog 39 k39 G39 := opens_iso (opens_struct Try.underlying39 (by kernel_rfl) (opensFs_cons rfl (by kernel_rfl) (opens_int Try.underlying3) (opensFs_cons rfl (by kernel_rfl) (opens_int Try.underlying2) (opensFs_cons rfl (by kernel_rfl) (opens_bool Try.underlying4) (opensFs_cons rfl (by kernel_rfl) op23 (opensFs_one rfl (by kernel_rfl) (opens_string Try.underlying9))))))) (fun x : S39 => (x.f0, x.f1, x.f2, x.f3, x.f4)) (fun a => ⟨a.1, a.2.1, a.2.2.1, a.2.2.2.1, a.2.2.2.2⟩) (fun _ => rfl)
def G34 (xs : List (S39)) : Prop := xs.length ≤ 9223372036854775807 ∧ xs.length * 56 ≤ 140737488351232 ∧ ∀ x ∈ xs, G39 x
theorem op34 : Opens Try.prog 34 (Kd.slice 39 k39) G34 := opens_slice Try.underlying34 (by kernel_rfl) (by kernel_rfl) op39
def G35 (xs : List (Int)) : Prop := xs.length ≤ 9223372036854775807 ∧ xs.length * 8 ≤ 140737488351232 ∧ ∀ x ∈ xs, (fun n => (Lit.int .i64 n).wf = true) x
theorem op35 : Opens Try.prog 35 (Kd.slice 3 (Kd.int .i64)) G35 := opens_slice Try.underlying35 (by kernel_rfl) (by kernel_rfl) (opens_int Try.underlying3)
def G37 (x : S37) : Prop := (fun n => (Lit.int .i64 n).wf = true) x.f0 ∧ (G23 x.f1 ∧ (G34 x.f2 ∧ ((fun _ => True) x.f3 ∧ ((fun s => s.size ≤ 140737488351232) x.f4 ∧ (G35 x.f5)))))
theorem op37 : Opens Try.prog 37 k37 G37 := opens_iso (opens_struct Try.underlying37 (by kernel_rfl) (opensFs_cons rfl (by kernel_rfl) (opens_int Try.underlying3) (opensFs_cons rfl (by kernel_rfl) op23 (opensFs_cons rfl (by kernel_rfl) op34 (opensFs_cons rfl (by kernel_rfl) (opens_bool Try.underlying4) (opensFs_cons rfl (by kernel_rfl) (opens_string Try.underlying9) (opensFs_one rfl (by kernel_rfl) op35))))))) (fun x : S37 => (x.f0, x.f1, x.f2, x.f3, x.f4, x.f5)) (fun a => ⟨a.1, a.2.1, a.2.2.1, a.2.2.2.1, a.2.2.2.2.1, a.2.2.2.2.2⟩) (fun _ => rfl)
end Go.Proofs.Ytpdpjcpmpppadaa.P
