-- left of the seat's texts by prune.py, a program of this session
import Derived.Test.YtpdpjcpmpppadaaOps
import Derived.Test.YtpdpjcpmpppadaaPureLeadDoes
namespace Go.Proofs.Ytpdpjcpmpppadaa.P
open Go.RowKit Go.Proofs.YtpdpjcpmpppadaaW.PrintWords Go.Proofs.YtpdpjcpmpppadaaW.PrintLast Go.Proofs.YtpdpjcpmpppadaaW.PrintMore
theorem reeflaw16_LeadDoes.walk (x0 : S37) (cs0 : List Value) (x1 : S37) (cs1 : List Value) (a2 : ByteArray) (a3 : Int) (a4 : Int) (w : World) (hk0 : k37.K w x0 cs0) (g0 : G37 x0) (hk1 : k37.K w x1 cs1) (g1 : G37 x1) (w2 : a2.size ≤ 140737488351232) (w3 : (Lit.int .i64 a3).wf = true) (w4 : (Lit.int .i64 a4).wf = true) :
    Calls Try.prog 6 #[.agg cs0.toArray, .agg cs1.toArray, .string a2, .int .i64 a3, .int .i64 a4] w fun e w' => e = .returned (.bool true) ∧ Below w.heap.size w w' := by
  obtain ⟨A3, c3, A6, c6, rfl, h1, h2, h3, h4⟩ := k37_open hk0
  obtain ⟨B3, d3, B6, d6, rfl, i1, i2, i3, i4⟩ := k37_open hk1
  obtain ⟨k, hk⟩ := (Pure.does_ev x0.f0 x0.f1.f0 x0.f1.f1 x0.f2 x0.f3 x0.f4 x0.f5 x1.f0 x1.f1.f0 x1.f1.f1 x1.f2 x1.f3 x1.f4 x1.f5 a2 a3 a4 g0.2.2.1.2.1 g0.2.2.2.2.2.2.1).rounds
  refine (reeflaw16_LeadDoes.calls k x0.f0 x0.f1.f0 x0.f1.f1 A3 c3 x0.f2 x0.f3 x0.f4 A6 c6 x0.f5 x1.f0 x1.f1.f0 x1.f1.f1 B3 d3 x1.f2 x1.f3 x1.f4 B6 d6 x1.f5 a2 a3 a4 true w h2 h1 h4 h3 i2 i1 i4 i3 hk).mono ?_
  rintro e w' ⟨rfl, hd⟩
  exact ⟨rfl, hd⟩
end Go.Proofs.Ytpdpjcpmpppadaa.P
