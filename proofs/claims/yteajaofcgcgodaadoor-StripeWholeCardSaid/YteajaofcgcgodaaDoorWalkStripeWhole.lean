import Derived.Test.YteajaofcgcgodaaDoorOps
import Derived.Test.YteajaofcgcgodaaDoorP31
import Derived.Test.YteajaofcgcgodaaDoorPureStripeWhole
namespace Go.Proofs.YteajaofcgcgodaaDoor.P
open Go.RowKit Go.Proofs.YteajaofcgcgodaaDoorW.PrintWords Go.Proofs.YteajaofcgcgodaaDoorW.PrintLast Go.Proofs.YteajaofcgcgodaaDoorW.PrintMore
theorem reeflaw28_StripeWhole.walk (x0 : S23) (cs0 : List Value) (a1 : Int) (a2 : ByteArray) (w : World) (hk0 : k23.K w x0 cs0) (g0 : G23 x0) (w1 : (Lit.int .i64 a1).wf = true) (w2 : a2.size ≤ 140737488351232) :
    Calls Tryd.prog 9 #[.agg cs0.toArray, .int .i64 a1, .string a2] w fun e w' => e = .returned (.bool true) ∧ Below w.heap.size w w' := by
  obtain rfl := k23_open hk0
  obtain ⟨k, hk⟩ := (Pure.whole_ev x0.f0 x0.f1 x0.f2 a1 a2 w2).rounds
  refine (reeflaw28_StripeWhole.calls k x0.f0 x0.f1 x0.f2 a1 a2 true w hk).mono ?_
  rintro e w' ⟨rfl, hd⟩
  exact ⟨rfl, hd⟩
end Go.Proofs.YteajaofcgcgodaaDoor.P
