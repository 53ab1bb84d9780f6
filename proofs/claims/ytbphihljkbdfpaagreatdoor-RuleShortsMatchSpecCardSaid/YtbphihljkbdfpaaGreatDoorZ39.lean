/- What the program's main function is: the same for every law. -/
import Derived.Test.YtbphihljkbdfpaaGreatDoorCards
import Derived.ProofKit
namespace Go.Proofs.YtbphihljkbdfpaaGreatDoor
set_option linter.unusedSimpArgs false
set_option linter.unusedVariables false
open Go.RowKit
theorem pf_main : Tryz.pinned.checked.prog.mainIs = some (Rows.ruleShortsMatchSpecCard.stood.harness.fst, Rows.ruleNotesMatchSpecCard.stood.harness.snd.toList) := by kernel_rfl
end Go.Proofs.YtbphihljkbdfpaaGreatDoor
