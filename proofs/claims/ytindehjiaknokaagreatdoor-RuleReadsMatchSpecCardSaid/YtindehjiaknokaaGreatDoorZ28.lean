/- The building of a Replacer's table. -/
import Derived.Test.YtindehjiaknokaaGreatDoorZ27
namespace Go.Proofs.YtindehjiaknokaaGreatDoor
set_option linter.unusedSimpArgs false
set_option linter.unusedVariables false
open Go.RowKit
set_option maxRecDepth 100000
set_option maxHeartbeats 8000000
instance:TZer Tryz.prog 152 (List.replicate 257 (Value.slice none 0 0)):=⟨by kernel_rfl⟩
def TabAt (B b:Nat) (w:World):Prop:=∃ cs v,Tc B b 2 w cs∧cs[256]?=some v∧Own w B 9 1 v tRep
end Go.Proofs.YtindehjiaknokaaGreatDoor
