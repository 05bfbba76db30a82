import Derived.Test.YteajaofcgcgodaaDoorOps
import Derived.Test.YteajaofcgcgodaaDoorP29
import Derived.Test.YteajaofcgcgodaaDoorPureStripePlaces
namespace Go.Proofs.YteajaofcgcgodaaDoor.P
open Go.RowKit Go.Proofs.YteajaofcgcgodaaDoorW.PrintWords Go.Proofs.YteajaofcgcgodaaDoorW.PrintLast Go.Proofs.YteajaofcgcgodaaDoorW.PrintMore
theorem reeflaw28_StripePlaces.walk (x0 : S23) (cs0 : List Value) (a1 : Int) (a2 : Int) (a3 : Int) (w : World) (hk0 : k23.K w x0 cs0) (g0 : G23 x0) (w1 : (Lit.int .i64 a1).wf = true) (w2 : (Lit.int .i64 a2).wf = true) (w3 : (Lit.int .i64 a3).wf = true) :
    Calls Tryd.prog 6 #[.agg cs0.toArray, .int .i64 a1, .int .i64 a2, .int .i64 a3] w fun e w' => e = .returned (.bool true) ∧ Below w.heap.size w w' := by
  obtain rfl := k23_open hk0
  obtain ⟨k, hk⟩ := (Pure.places_ev x0.f0 x0.f1 x0.f2 a1 a2 a3).rounds
  refine (reeflaw28_StripePlaces.calls k x0.f0 x0.f1 x0.f2 a1 a2 a3 true w hk).mono ?_
  rintro e w' ⟨rfl, hd⟩
  exact ⟨rfl, hd⟩
end Go.Proofs.YteajaofcgcgodaaDoor.P
