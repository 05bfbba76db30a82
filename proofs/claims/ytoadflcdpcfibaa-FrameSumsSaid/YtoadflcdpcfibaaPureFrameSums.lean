/- Sums, frames and what is read of bytes are the document's: any bytes, any kind. -/
import Derived.Test.YtoadflcdpcfibaaOfreeflaw03FrameSums
import Derived.Test.YtoadflcdpcfibaaPure0
namespace Go.Proofs.Ytoadflcdpcfibaa.Pure
open Go.RowKit Go.Proofs.Ytoadflcdpcfibaa.P Go.Proofs.YtoadflcdpcfibaaW.PrintWords Go.Proofs.YtoadflcdpcfibaaW.PrintLast
set_option linter.unusedVariables false

theorem FrameSums : reeflaw03_FrameSums.Pure := by
  intro a l ha hm hl hw
  have hb := bytes_of hw
  have ha := wf_u8 ha
  have hll : l.length < 4611686018427387904 := by omega
  have tail : Ev (fun k => (frame_Sum.f k l).bind fun t170 => ((reefref03_Sum.f k l).bind fun t171 => (reeflaw03_FrameSums.j0 k l (t170 != t171)))) true := by
    refine Ev.bind (sum_ev l hb (by omega)) (Ev.bind (rsum_ev l hb (by omega)) ?_)
    rw [bne_self_eq_false]
    refine Ev.step (f := fun k => (frame_Open.f k l).bind fun x => (reefref03_Open.f k l).bind fun y => if x.1 = y.1 then (if (strOfNums x.2.1).toList = (strOfNums y.2.1).toList then (if x.2.2.1 = y.2.2.1 then (if x.2.2.2 = y.2.2.2 then ((reeflaw03_awake.f k).bind fun t => some t) else none) else none) else none) else none) (fun k => ?_) ?_
    · simp only [reeflaw03_FrameSums.j0]
      rw [if_neg (by decide)]
    · refine Ev.bind (open_ev l hb hll) (Ev.bind (ropen_ev l hb hll) ?_)
      simp only [if_true]
      exact Ev.bind awake_ev (Ev.now _)
  refine Ev.rounds (g := fun k => reeflaw03_FrameSums.f k a l) ?_
  unfold reeflaw03_FrameSums.f
  by_cases h : l.length ≤ 1048575
  · refine Ev.bind (seal_ev a l ha hb h) (Ev.bind (rseal_ev a l ha hb h) ?_)
    simp only [if_true]
    exact tail
  · refine Ev.bind (seal_long a l (by omega)) (Ev.bind (rseal_long a l (by omega)) ?_)
    simp only [if_true]
    exact tail
end Go.Proofs.Ytoadflcdpcfibaa.Pure
