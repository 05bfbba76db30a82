import Derived.Test.YteajaofcgcgodaaDoorOps
import Derived.Test.YteajaofcgcgodaaDoorP30
import Derived.Test.YteajaofcgcgodaaDoorPureStripeCuts
namespace Go.Proofs.YteajaofcgcgodaaDoor.P
open Go.RowKit Go.Proofs.YteajaofcgcgodaaDoorW.PrintWords Go.Proofs.YteajaofcgcgodaaDoorW.PrintLast Go.Proofs.YteajaofcgcgodaaDoorW.PrintMore
theorem reeflaw28_StripeCuts.walk (a0 : ByteArray) (A1 : Option Addr) (c1 : Nat) (l1 : List (S51)) (a2 : Int) (A3 : Option Addr) (c3 : Nat) (l3 : List ByteArray) (w : World) (w0 : a0.size ≤ 140737488351232) (hr1 : Kd.C k51 w A1 l1.length l1) (hc1 : l1.length ≤ c1) (g1 : G26 l1) (w2 : (Lit.int .i64 a2).wf = true) (hr3 : Kd.C Kd.string w A3 l3.length l3) (hc3 : l3.length ≤ c3) (g3 : G45 l3) :
    Calls Tryd.prog 8 #[.string a0, .slice A1 l1.length c1, .int .i64 a2, .slice A3 l3.length c3] w fun e w' => e = .returned (.bool true) ∧ Below w.heap.size w w' := by
  obtain ⟨k, hk⟩ := (Pure.cuts_ev a0 l1 a2 l3 w0 g1.2.1).rounds
  refine (reeflaw28_StripeCuts.calls k a0 A1 c1 l1 a2 A3 c3 l3 true w hr1 hc1 hr3 hc3 hk).mono ?_
  rintro e w' ⟨rfl, hd⟩
  exact ⟨rfl, hd⟩
end Go.Proofs.YteajaofcgcgodaaDoor.P
