-- left of the seat's texts by prune.py, a program of this session
import Derived.Test.YtcheinjlgojepaaDoorOpen
import Derived.Test.YtcheinjlgojepaaDoorP0
namespace Go.Proofs.YtcheinjlgojepaaDoor.P
open Go.RowKit Go.Proofs.YtcheinjlgojepaaDoor.Open Go.Proofs.YtcheinjlgojepaaDoorW.PrintWords Go.Proofs.YtcheinjlgojepaaDoorW.PrintLast
def G29 (x : S29) : Prop := (fun n => (Lit.int .i64 n).wf = true) x.f0 ∧ ((fun n => (Lit.int .i64 n).wf = true) x.f1 ∧ ((fun s => s.size ≤ 140737488351232) x.f2 ∧ ((fun _ => True) x.f3)))
def G26 (xs : List (S29)) : Prop := xs.length ≤ 9223372036854775807 ∧ xs.length * 40 ≤ 140737488351232 ∧ ∀ x ∈ xs, G29 x
end Go.Proofs.YtcheinjlgojepaaDoor.P
namespace Go.Proofs.YtcheinjlgojepaaDoor.P
open Go.RowKit Go.Proofs.YtcheinjlgojepaaDoor.Open Go.Proofs.YtcheinjlgojepaaDoor.OpenU Go.Proofs.YtcheinjlgojepaaDoorW.PrintWords Go.Proofs.YtcheinjlgojepaaDoorW.PrintLast
def B29 : S29 → Nat := fun z => (fun x => (fun a => (fun a => (fun _ => 1) a.1 + (fun a => (fun _ => 1) a.1 + (fun a => (fun s => ByteArray.size s + 1) a.1 + (fun _ => 1) a.2) a.2) a.2) a + 1) ((fun x : S29 => (x.f0, x.f1, x.f2, x.f3)) x)) z
theorem opu29 : OpensB Tryd.prog 29 k29 G29 B29 := (opensB_iso (opensB_struct Tryd.underlying29 (by kernel_rfl) (opensFsB_cons rfl (by kernel_rfl) (opensB_any (opens_int Tryd.underlying3)) (opensFsB_cons rfl (by kernel_rfl) (opensB_any (opens_int Tryd.underlying2)) (opensFsB_cons rfl (by kernel_rfl) (opensB_string Tryd.underlying9) (opensFsB_one rfl (by kernel_rfl) (opensB_any (opens_bool Tryd.underlying4))))))) (fun x : S29 => (x.f0, x.f1, x.f2, x.f3)) (fun a => ⟨a.1, a.2.1, a.2.2.1, a.2.2.2⟩) (fun _ => rfl))
def B26 : List (S29) → Nat := fun z => (fun xs => (List.map B29 xs).sum + 1) z
theorem opu26 : OpensB Tryd.prog 26 (Kd.slice 29 k29) G26 B26 := (opensB_slice Tryd.underlying26 (by kernel_rfl) (by kernel_rfl) opu29)
end Go.Proofs.YtcheinjlgojepaaDoor.P
