/- Conditions are right: the reference's check of all parts (walks). -/
import Derived.Test.YtfolfppcadjccaaGreatDoorZ25
namespace Go.Proofs.YtfolfppcadjccaaGreatDoor
set_option linter.unusedSimpArgs false
set_option linter.unusedVariables false
open Go.RowKit
set_option maxRecDepth 100000
set_option maxHeartbeats 4000000
end Go.Proofs.YtfolfppcadjccaaGreatDoor
