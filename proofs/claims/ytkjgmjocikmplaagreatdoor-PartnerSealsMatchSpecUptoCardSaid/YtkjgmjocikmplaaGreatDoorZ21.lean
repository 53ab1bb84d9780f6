/- What the program's main function is: the same for every law. -/
import Derived.Test.YtkjgmjocikmplaaGreatDoorCards
import Derived.ProofKit
namespace Go.Proofs.YtkjgmjocikmplaaGreatDoor
set_option linter.unusedSimpArgs false
set_option linter.unusedVariables false
open Go.RowKit
theorem pf_main : Tryz.pinned.checked.prog.mainIs = some (Rows.partnerSealsMatchSpecUptoCard.stood.harness.fst, Rows.partnerSealsMatchSpecUptoCard.stood.harness.snd.toList) := by kernel_rfl
end Go.Proofs.YtkjgmjocikmplaaGreatDoor
