/- What the program's main function is: the same for every law. -/
import Derived.Test.YtdopillligfdiaaDoorCards
import Derived.ProofKit
namespace Go.Proofs.YtdopillligfdiaaDoor
set_option linter.unusedSimpArgs false
set_option linter.unusedVariables false
open Go.RowKit
theorem pf_main : Tryd.pinned.checked.prog.mainIs = some (Rows.partnersMatchSpecCard.stood.harness.fst, Rows.partnersMatchSpecCard.stood.harness.snd.toList) := by kernel_rfl
end Go.Proofs.YtdopillligfdiaaDoor
