/- What the program's main function is: the same for every law. -/
import Derived.Test.YtdhlopciapncfaaGreatDoorCards
import Derived.ProofKit
namespace Go.Proofs.YtdhlopciapncfaaGreatDoor
set_option linter.unusedSimpArgs false
set_option linter.unusedVariables false
open Go.RowKit
theorem pf_main:Tryz.pinned.checked.prog.mainIs=some (Rows.ruleUndersHoldCard.stood.harness.fst,Rows.ruleUndersHoldCard.stood.harness.snd.toList):=by kernel_rfl
end Go.Proofs.YtdhlopciapncfaaGreatDoor
