-- left of the seat's texts by prune.py, a program of this session
import Derived.Test.YtpdpjcpmpppadaaOps
import Derived.Test.YtpdpjcpmpppadaaP27
import Derived.Test.YtpdpjcpmpppadaaPureLeadHears
namespace Go.Proofs.Ytpdpjcpmpppadaa.P
open Go.RowKit Go.Proofs.YtpdpjcpmpppadaaW.PrintWords Go.Proofs.YtpdpjcpmpppadaaW.PrintLast Go.Proofs.YtpdpjcpmpppadaaW.PrintMore
theorem reeflaw16_LeadHears.walk (x0 : S37) (cs0 : List Value) (x1 : S23) (cs1 : List Value) (x2 : S39) (cs2 : List Value) (x3 : S39) (cs3 : List Value) (a4 : Int) (a5 : Int) (w : World) (hk0 : k37.K w x0 cs0) (g0 : G37 x0) (hk1 : k23.K w x1 cs1) (g1 : G23 x1) (hk2 : k39.K w x2 cs2) (g2 : G39 x2) (hk3 : k39.K w x3 cs3) (g3 : G39 x3) (w4 : (Lit.int .i64 a4).wf = true) (w5 : (Lit.int .i64 a5).wf = true) :
    Calls Try.prog 5 #[.agg cs0.toArray, .agg cs1.toArray, .agg cs2.toArray, .agg cs3.toArray, .int .i64 a4, .int .i64 a5] w fun e w' => e = .returned (.bool true) ∧ Below w.heap.size w w' := by
  obtain ⟨A3, c3, A6, c6, rfl, h1, h2, h3, h4⟩ := k37_open hk0
  obtain rfl := k23_open hk1
  obtain rfl := k39_open hk2
  obtain rfl := k39_open hk3
  obtain ⟨k, hk⟩ := (Pure.hears_ev x0.f0 x0.f1.f0 x0.f1.f1 x0.f2 x0.f3 x0.f4 x0.f5 x1.f0 x1.f1 x2 x3 a4 a5 g0.2.2.1.2.1 g0.2.2.2.2.2.2.1).rounds
  refine (reeflaw16_LeadHears.calls k x0.f0 x0.f1.f0 x0.f1.f1 A3 c3 x0.f2 x0.f3 x0.f4 A6 c6 x0.f5 x1.f0 x1.f1 x2.f0 x2.f1 x2.f2 x2.f3.f0 x2.f3.f1 x2.f4 x3.f0 x3.f1 x3.f2 x3.f3.f0 x3.f3.f1 x3.f4 a4 a5 true w h2 h1 h4 h3 hk).mono ?_
  rintro e w' ⟨rfl, hd⟩
  exact ⟨rfl, hd⟩
end Go.Proofs.Ytpdpjcpmpppadaa.P
