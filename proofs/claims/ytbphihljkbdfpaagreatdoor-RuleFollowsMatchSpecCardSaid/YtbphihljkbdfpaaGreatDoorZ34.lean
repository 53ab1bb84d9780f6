/- What the program's main function is: the same for every law. -/
import Derived.Test.YtbphihljkbdfpaaGreatDoorCards
import Derived.ProofKit
namespace Go.Proofs.YtbphihljkbdfpaaGreatDoor
set_option linter.unusedSimpArgs false
set_option linter.unusedVariables false
open Go.RowKit
theorem pf_main : Tryz.pinned.checked.prog.mainIs = some (Rows.ruleFollowsMatchSpecCard.stood.harness.fst, Rows.ruleFollowsMatchSpecCard.stood.harness.snd.toList) := by kernel_rfl
end Go.Proofs.YtbphihljkbdfpaaGreatDoor
