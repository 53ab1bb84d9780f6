/- A world for the witnesses: tables of numbers, and the two errors of strconv. -/
import Derived.Test.YtkjgmjocikmplaaDoorZ16
import Derived.Test.YtkjgmjocikmplaaDoorZ1
import Derived.Deep.DeepWitnessRowRef
namespace Go.Proofs.YtkjgmjocikmplaaDoor
set_option linter.unusedSimpArgs false
set_option linter.unusedVariables false
open Go.ChangeShapes Go.WideShapes Go.ChangeAt Go.RowKit Go.Deep

end Go.Proofs.YtkjgmjocikmplaaDoor
