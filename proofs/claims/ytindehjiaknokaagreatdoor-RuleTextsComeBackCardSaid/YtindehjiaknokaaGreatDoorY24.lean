/- Paths: the reference reads one (walks). -/
import Derived.Test.YtindehjiaknokaaGreatDoorY18
namespace Go.Proofs.YtindehjiaknokaaGreatDoor
set_option linter.unusedSimpArgs false
set_option linter.unusedVariables false
open Go.RowKit
set_option maxRecDepth 100000
set_option maxHeartbeats 20000000
end Go.Proofs.YtindehjiaknokaaGreatDoor
