/- What the program's main function is: the same for every law. -/
import Derived.Test.YtindehjiaknokaaGreatDoorCards
import Derived.ProofKit
namespace Go.Proofs.YtindehjiaknokaaGreatDoor
set_option linter.unusedSimpArgs false
set_option linter.unusedVariables false
open Go.RowKit
theorem pf_main:Tryz.pinned.checked.prog.mainIs=some (Rows.ruleTextsComeBackCard.stood.harness.fst,Rows.ruleTextsComeBackCard.stood.harness.snd.toList):=by kernel_rfl
end Go.Proofs.YtindehjiaknokaaGreatDoor
