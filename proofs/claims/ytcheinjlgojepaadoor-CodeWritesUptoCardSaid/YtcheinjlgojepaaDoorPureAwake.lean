/- The chapter's examples. -/
import Derived.Test.YtcheinjlgojepaaDoorP24
namespace Go.Proofs.YtcheinjlgojepaaDoor.Pure
open Go.RowKit Go.Proofs.YtcheinjlgojepaaDoor.P Go.Proofs.YtcheinjlgojepaaDoorW.PrintWords
theorem awake_evr : Ev (fun k => reeflaw02_awake.f k) true := Ev.of (k := 14) (fun k => reeflaw02_awake.mono k) (by decide +kernel)
end Go.Proofs.YtcheinjlgojepaaDoor.Pure
