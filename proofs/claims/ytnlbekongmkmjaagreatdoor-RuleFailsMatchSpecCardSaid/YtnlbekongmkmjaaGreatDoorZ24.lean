/- slices.Clone of conditions: the slice that is empty and not nil. -/
import Derived.Test.YtnlbekongmkmjaaGreatDoorZ11
import Derived.Test.YtnlbekongmkmjaaGreatDoorProg
import Derived.WalkKit
import Derived.Lib.Walk
import Derived.Laws.AppendOwn
import Derived.Sort.Row
import Derived.Ground.SlgnProg
import Derived.Shelf.SlicesE.Clone
import Derived.Test.YtnlbekongmkmjaaGreatDoorZ14
namespace Go.Proofs.YtnlbekongmkmjaaGreatDoor
set_option linter.unusedSimpArgs false
set_option linter.unusedVariables false
open Go.RowKit Go.Lib
set_option maxRecDepth 100000
set_option maxHeartbeats 4000000
end Go.Proofs.YtnlbekongmkmjaaGreatDoor
