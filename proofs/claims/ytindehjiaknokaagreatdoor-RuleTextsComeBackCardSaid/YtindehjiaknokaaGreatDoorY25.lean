/- Conditions are right: the reference's check (walks). -/
import Derived.Test.YtindehjiaknokaaGreatDoorY24
namespace Go.Proofs.YtindehjiaknokaaGreatDoor
set_option linter.unusedSimpArgs false
set_option linter.unusedVariables false
open Go.RowKit
set_option maxRecDepth 100000
set_option maxHeartbeats 4000000
end Go.Proofs.YtindehjiaknokaaGreatDoor
