/- What the program's main function is: the same for every law. -/
import Derived.Test.YthbhjladfniboaaDoorCards
import Derived.ProofKit
namespace Go.Proofs.YthbhjladfniboaaDoor
set_option linter.unusedSimpArgs false
set_option linter.unusedVariables false
open Go.RowKit
theorem pf_main : Tryd.pinned.checked.prog.mainIs = some (Rows.partnerNeverIsNeverCard.stood.harness.fst, Rows.partnerNeverIsNeverCard.stood.harness.snd.toList) := by kernel_rfl
end Go.Proofs.YthbhjladfniboaaDoor
