/- The seat's own types, opened with their bulk (printed by opsu.py). -/
import Derived.Test.YtcheinjlgojepaaDoorOpenU
import Derived.Test.YtcheinjlgojepaaDoorOps
namespace Go.Proofs.YtcheinjlgojepaaDoor.P
open Go.RowKit Go.Proofs.YtcheinjlgojepaaDoor.Open Go.Proofs.YtcheinjlgojepaaDoor.OpenU Go.Proofs.YtcheinjlgojepaaDoorW.PrintWords Go.Proofs.YtcheinjlgojepaaDoorW.PrintLast
def B29 : S29 → Nat := fun z => (fun x => (fun a => (fun a => (fun _ => 1) a.1 + (fun a => (fun _ => 1) a.1 + (fun a => (fun s => ByteArray.size s + 1) a.1 + (fun _ => 1) a.2) a.2) a.2) a + 1) ((fun x : S29 => (x.f0, x.f1, x.f2, x.f3)) x)) z
theorem opu29 : OpensB Tryd.prog 29 k29 G29 B29 := (opensB_iso (opensB_struct Tryd.underlying29 (by kernel_rfl) (opensFsB_cons rfl (by kernel_rfl) (opensB_any (opens_int Tryd.underlying3)) (opensFsB_cons rfl (by kernel_rfl) (opensB_any (opens_int Tryd.underlying2)) (opensFsB_cons rfl (by kernel_rfl) (opensB_string Tryd.underlying9) (opensFsB_one rfl (by kernel_rfl) (opensB_any (opens_bool Tryd.underlying4))))))) (fun x : S29 => (x.f0, x.f1, x.f2, x.f3)) (fun a => ⟨a.1, a.2.1, a.2.2.1, a.2.2.2⟩) (fun _ => rfl))
def B26 : List (S29) → Nat := fun z => (fun xs => (List.map B29 xs).sum + 1) z
theorem opu26 : OpensB Tryd.prog 26 (Kd.slice 29 k29) G26 B26 := (opensB_slice Tryd.underlying26 (by kernel_rfl) (by kernel_rfl) opu29)
def B31 : List (Int) → Nat := fun z => (fun xs => (List.map (fun _ => 1) xs).sum + 1) z
theorem opu31 : OpensB Tryd.prog 31 (Kd.slice 5 (Kd.int .u8)) G31 B31 := (opensB_slice Tryd.underlying31 (by kernel_rfl) (by kernel_rfl) (opensB_any (opens_int Tryd.underlying5)))
def B37 : List (Int) → Nat := fun z => (fun xs => (List.map (fun _ => 1) xs).sum + 1) z
theorem opu37 : OpensB Tryd.prog 37 (Kd.slice 3 (Kd.int .i64)) G37 B37 := (opensB_slice Tryd.underlying37 (by kernel_rfl) (by kernel_rfl) (opensB_any (opens_int Tryd.underlying3)))
end Go.Proofs.YtcheinjlgojepaaDoor.P
