import Derived.Test.YtcheinjlgojepaaDoorPureAfter
namespace Go.Proofs.YtcheinjlgojepaaDoor.Pure
open Go.RowKit Go.Proofs.YtcheinjlgojepaaDoor.P
/-- The law of After, in the printed form. -/
theorem CodeAfter : reeflaw02_CodeAfter.Pure := fun a0 a1 h0 h1 => (codeAfter_pure a0 a1 h0 h1).rounds
end Go.Proofs.YtcheinjlgojepaaDoor.Pure
