/- From what was read of an argument to data: conditions. -/
import Derived.Test.YtindehjiaknokaaGreatDoorZ45
import Derived.Test.YtindehjiaknokaaGreatDoorZ19
namespace Go.Proofs.YtindehjiaknokaaGreatDoor
set_option linter.unusedSimpArgs false
set_option linter.unusedVariables false
open Go.ChangeShapes Go.WideShapes Go.ChangeAt Go.RowKit Go.Deep
section
variable {H:Type} {enc:TypeId × Value→H} {P:Program} {w:World} {base:Nat} {held:Bool}
end
section
variable {H:Type} {enc:TypeId × Value→H} {w:World} {base:Nat} {held:Bool}
end
end Go.Proofs.YtindehjiaknokaaGreatDoor
