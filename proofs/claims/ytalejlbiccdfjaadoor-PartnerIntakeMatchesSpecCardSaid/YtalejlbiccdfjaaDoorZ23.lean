/- What the program's main function is: the same for every law. -/
import Derived.Test.YtalejlbiccdfjaaDoorCards
import Derived.ProofKit
namespace Go.Proofs.YtalejlbiccdfjaaDoor
set_option linter.unusedSimpArgs false
set_option linter.unusedVariables false
open Go.RowKit
theorem pf_main:Tryd.pinned.checked.prog.mainIs=some (Rows.partnerIntakeMatchesSpecCard.stood.harness.fst,Rows.partnerIntakeMatchesSpecCard.stood.harness.snd.toList):=by kernel_rfl
end Go.Proofs.YtalejlbiccdfjaaDoor
