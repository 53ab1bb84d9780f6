/- What the program's main function is: the same for every law. -/
import Derived.Test.YthbhjladfniboaaGreatDoorCards
import Derived.ProofKit
namespace Go.Proofs.YthbhjladfniboaaGreatDoor
set_option linter.unusedSimpArgs false
set_option linter.unusedVariables false
open Go.RowKit
theorem pf_main : Tryz.pinned.checked.prog.mainIs = some (Rows.partnerDaysMatchSpecCard.stood.harness.fst, Rows.partnerDaysMatchSpecCard.stood.harness.snd.toList) := by kernel_rfl
end Go.Proofs.YthbhjladfniboaaGreatDoor
