/- Conditions: the comparison. -/
import Derived.Test.YtnlbekongmkmjaaGreatDoorZ11
namespace Go.Proofs.YtnlbekongmkmjaaGreatDoor
set_option linter.unusedSimpArgs false
set_option linter.unusedVariables false
open Go.RowKit
set_option maxRecDepth 100000
set_option maxHeartbeats 400000
end Go.Proofs.YtnlbekongmkmjaaGreatDoor
