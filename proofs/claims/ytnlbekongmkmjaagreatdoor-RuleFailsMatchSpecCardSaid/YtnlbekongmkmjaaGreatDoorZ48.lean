/- What the program's main function is: the same for every law. -/
import Derived.Test.YtnlbekongmkmjaaGreatDoorCards
import Derived.ProofKit
namespace Go.Proofs.YtnlbekongmkmjaaGreatDoor
set_option linter.unusedSimpArgs false
set_option linter.unusedVariables false
open Go.RowKit
theorem pf_main:Tryz.pinned.checked.prog.mainIs=some (Rows.ruleFailsMatchSpecCard.stood.harness.fst,Rows.ruleFailsMatchSpecCard.stood.harness.snd.toList):=by kernel_rfl
end Go.Proofs.YtnlbekongmkmjaaGreatDoor
