/- What the program's main function is: the same for every law. -/
import Derived.Test.YtkjgmjocikmplaaDoorCards
import Derived.ProofKit
namespace Go.Proofs.YtkjgmjocikmplaaDoor
set_option linter.unusedSimpArgs false
set_option linter.unusedVariables false
open Go.RowKit
theorem pf_main : Tryd.pinned.checked.prog.mainIs = some (Rows.partnerReceiptsComeBackCard.stood.harness.fst, Rows.partnerReceiptsComeBackCard.stood.harness.snd.toList) := by kernel_rfl
end Go.Proofs.YtkjgmjocikmplaaDoor
