/- What the program's main function is: the same for every law. -/
import Derived.Test.YtnjgoldinaffgaaGreatDoorCards
import Derived.ProofKit
namespace Go.Proofs.YtnjgoldinaffgaaGreatDoor
set_option linter.unusedSimpArgs false
set_option linter.unusedVariables false
open Go.RowKit
theorem zK7:Tryz.pinned.checked.prog.mainIs=some (Rows.remapThensMatchSpecCard.stood.harness.fst,Rows.remapThensMatchSpecCard.stood.harness.snd.toList):=by kernel_rfl
end Go.Proofs.YtnjgoldinaffgaaGreatDoor
