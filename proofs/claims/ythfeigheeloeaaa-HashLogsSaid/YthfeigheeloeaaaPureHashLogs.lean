/- The program's logarithm of every 32-bit number is the reference's; and chapter 1's examples hold. -/
import Derived.Test.YthfeigheeloeaaaP2
import Derived.Test.YthfeigheeloeaaaPure0
namespace Go.Proofs.Ythfeigheeloeaaa.Pure
open Go.RowKit Go.Proofs.Ythfeigheeloeaaa.P Go.Proofs.YthfeigheeloeaaaW.PrintWords Go.Proofs.YthfeigheeloeaaaW.PrintLast

theorem HashLogs : reeflaw01_HashLogs.Pure := by
  intro a h
  have h := wf_u32 h
  unfold reeflaw01_HashLogs.f hash_Log.f reefref01_Log.f
  rw [if_pos h]
  simp only [Option.bind_some, if_true, awake_true]
end Go.Proofs.Ythfeigheeloeaaa.Pure
