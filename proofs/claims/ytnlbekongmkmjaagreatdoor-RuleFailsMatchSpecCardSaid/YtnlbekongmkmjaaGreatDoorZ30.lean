/- Under: the program's and the reference's (walks). -/
import Derived.Test.YtnlbekongmkmjaaGreatDoorZ26
import Derived.Test.YtnlbekongmkmjaaGreatDoorZ29
namespace Go.Proofs.YtnlbekongmkmjaaGreatDoor
set_option linter.unusedSimpArgs false
set_option linter.unusedVariables false
open Go.RowKit
set_option maxRecDepth 100000
set_option maxHeartbeats 4000000
end Go.Proofs.YtnlbekongmkmjaaGreatDoor
