import Derived.Test.YteajaofcgcgodaaDoorPureStripeNames
namespace Go.Proofs.YteajaofcgcgodaaDoor.P
open Go.RowKit Go.Proofs.YteajaofcgcgodaaDoorW.PrintWords Go.Proofs.YteajaofcgcgodaaDoorW.PrintLast Go.Proofs.YteajaofcgcgodaaDoorW.PrintMore
theorem reeflaw28_StripeNames.walkU (a0 : ByteArray) (a1 : Int) (a2 : ByteArray) (w : World) (w0 : a0.size ≤ 140737488351232) (w1 : (Lit.int .i64 a1).wf = true) (w2 : a2.size ≤ 140737488351232) (b0 : a0.size ≤ 1048576) (b2 : a2.size ≤ 1048576) (hT : LT w) :
    Calls Tryd.prog 10 #[.string a0, .int .i64 a1, .string a2] w fun e w' => e = .returned (.bool true) ∧ Below w.heap.size w w' := by
  obtain ⟨k, hk⟩ := (Pure.stripeNames_ev a0 a1 a2 b0 b2).rounds
  exact reeflaw28_StripeNames.calls k a0 a1 a2 true w hT hk
end Go.Proofs.YteajaofcgcgodaaDoor.P
