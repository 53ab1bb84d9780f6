/- Paths: the reference reads one (walks). -/
import Derived.Test.YtfolfppcadjccaaGreatDoorZ20
namespace Go.Proofs.YtfolfppcadjccaaGreatDoor
set_option linter.unusedSimpArgs false
set_option linter.unusedVariables false
open Go.RowKit
set_option maxRecDepth 100000
set_option maxHeartbeats 20000000
end Go.Proofs.YtfolfppcadjccaaGreatDoor
