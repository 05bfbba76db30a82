import Derived.Test.YtpdpjcpmpppadaaOps
import Derived.Test.YtpdpjcpmpppadaaP27
import Derived.Test.YtpdpjcpmpppadaaPureLeadNext
namespace Go.Proofs.Ytpdpjcpmpppadaa.P
open Go.RowKit Go.Proofs.YtpdpjcpmpppadaaW.PrintWords Go.Proofs.YtpdpjcpmpppadaaW.PrintLast Go.Proofs.YtpdpjcpmpppadaaW.PrintMore
theorem reeflaw16_LeadNext.walk (x0 : S23) (cs0 : List Value) (a1 : Int) (a2 : Int) (a3 : Int) (w : World) (hk0 : k23.K w x0 cs0) (g0 : G23 x0) (w1 : (Lit.int .i64 a1).wf = true) (w2 : (Lit.int .i64 a2).wf = true) (w3 : (Lit.int .i64 a3).wf = true) :
    Calls Try.prog 3 #[.agg cs0.toArray, .int .i64 a1, .int .i64 a2, .int .i64 a3] w fun e w' => e = .returned (.bool true) ∧ Below w.heap.size w w' := by
  obtain rfl := k23_open hk0
  obtain ⟨k, hk⟩ := (Pure.next_ev x0.f0 x0.f1 a1 a2 a3).rounds
  refine (reeflaw16_LeadNext.calls k x0.f0 x0.f1 a1 a2 a3 true w hk).mono ?_
  rintro e w' ⟨rfl, hd⟩
  exact ⟨rfl, hd⟩
end Go.Proofs.Ytpdpjcpmpppadaa.P
