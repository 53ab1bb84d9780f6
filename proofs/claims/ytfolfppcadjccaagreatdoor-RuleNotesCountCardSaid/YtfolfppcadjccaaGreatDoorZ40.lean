/- What the program's main function is: the same for every law. -/
import Derived.Test.YtfolfppcadjccaaGreatDoorCards
import Derived.ProofKit
namespace Go.Proofs.YtfolfppcadjccaaGreatDoor
set_option linter.unusedSimpArgs false
set_option linter.unusedVariables false
open Go.RowKit
theorem pf_main:Tryz.pinned.checked.prog.mainIs=some (Rows.ruleNotesCountCard.stood.harness.fst,Rows.ruleNotesCountCard.stood.harness.snd.toList):=by kernel_rfl
end Go.Proofs.YtfolfppcadjccaaGreatDoor
