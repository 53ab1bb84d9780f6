/- Copies of conditions. -/
import Derived.Test.YtnlbekongmkmjaaGreatDoorZ11
import Derived.Test.YtnlbekongmkmjaaGreatDoorZ24
namespace Go.Proofs.YtnlbekongmkmjaaGreatDoor
set_option linter.unusedSimpArgs false
set_option linter.unusedVariables false
open Go.RowKit
set_option maxRecDepth 100000
set_option maxHeartbeats 1000000
inductive Cond.Small:Cond→Prop
 |mk {k:Int} {ks:List Cond} {p:Str} {vs:List Str} {lo hi:Int} (h1:ks.length≤1000) (h2:vs.length≤1000) (h3:∀ x ∈ ks,x.Small):Small (.mk k ks p vs lo hi)
end Go.Proofs.YtnlbekongmkmjaaGreatDoor
