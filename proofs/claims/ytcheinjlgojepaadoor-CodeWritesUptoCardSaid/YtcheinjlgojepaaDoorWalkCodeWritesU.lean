import Derived.Test.YtcheinjlgojepaaDoorPureCodeWrites
namespace Go.Proofs.YtcheinjlgojepaaDoor.P
open Go.RowKit Go.Proofs.YtcheinjlgojepaaDoorW.PrintWords Go.Proofs.YtcheinjlgojepaaDoorW.PrintLast Go.Proofs.YtcheinjlgojepaaDoorW.PrintMore
theorem reeflaw02_CodeWrites.walkU (A0 : Option Addr) (c0 : Nat) (l0 : List (S29)) (w : World) (hr0 : Kd.C k29 w A0 l0.length l0) (hc0 : l0.length ≤ c0) (g0 : G26 l0) (b0 : B26 l0 ≤ 1048576) :
    Calls Tryd.prog 4 #[.slice A0 l0.length c0] w fun e w' => e = .returned (.bool true) ∧ Below w.heap.size w w' := by
  obtain ⟨k, hk⟩ := (Pure.codeWrites_ev l0 g0 b0).rounds
  exact reeflaw02_CodeWrites.calls k A0 c0 l0 true w hr0 hc0 hk
end Go.Proofs.YtcheinjlgojepaaDoor.P
