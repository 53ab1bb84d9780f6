/- Under: the program's and the reference's (walks). -/
import Derived.Test.YtfolfppcadjccaaGreatDoorZ23
import Derived.Test.YtfolfppcadjccaaGreatDoorZ26
namespace Go.Proofs.YtfolfppcadjccaaGreatDoor
set_option linter.unusedSimpArgs false
set_option linter.unusedVariables false
open Go.RowKit
set_option maxRecDepth 100000
set_option maxHeartbeats 4000000
end Go.Proofs.YtfolfppcadjccaaGreatDoor
