/- Conditions are compared, and looked for in lists (walks). -/
import Derived.Test.YtdhlopciapncfaaGreatDoorZ10
import Derived.Test.YtdhlopciapncfaaGreatDoorZ9
namespace Go.Proofs.YtdhlopciapncfaaGreatDoor
set_option linter.unusedSimpArgs false
set_option linter.unusedVariables false
open Go.RowKit
set_option maxRecDepth 100000
set_option maxHeartbeats 4000000
end Go.Proofs.YtdhlopciapncfaaGreatDoor
