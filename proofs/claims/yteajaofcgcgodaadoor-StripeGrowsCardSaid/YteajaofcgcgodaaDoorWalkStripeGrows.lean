import Derived.Test.YteajaofcgcgodaaDoorOps
import Derived.Test.YteajaofcgcgodaaDoorP27
import Derived.Test.YteajaofcgcgodaaDoorPureStripeGrows
namespace Go.Proofs.YteajaofcgcgodaaDoor.P
open Go.RowKit Go.Proofs.YteajaofcgcgodaaDoorW.PrintWords Go.Proofs.YteajaofcgcgodaaDoorW.PrintLast Go.Proofs.YteajaofcgcgodaaDoorW.PrintMore
theorem reeflaw28_StripeGrows.walk (x0 : S23) (cs0 : List Value) (a1 : Int) (a2 : Int) (w : World) (hk0 : k23.K w x0 cs0) (g0 : G23 x0) (w1 : (Lit.int .i64 a1).wf = true) (w2 : (Lit.int .i64 a2).wf = true) :
    Calls Tryd.prog 5 #[.agg cs0.toArray, .int .i64 a1, .int .i64 a2] w fun e w' => e = .returned (.bool true) ∧ Below w.heap.size w w' := by
  obtain rfl := k23_open hk0
  obtain ⟨k, hk⟩ := (Pure.grows_ev x0.f0 x0.f1 x0.f2 a1 a2).rounds
  refine (reeflaw28_StripeGrows.calls k x0.f0 x0.f1 x0.f2 a1 a2 true w hk).mono ?_
  rintro e w' ⟨rfl, hd⟩
  exact ⟨rfl, hd⟩
end Go.Proofs.YteajaofcgcgodaaDoor.P
