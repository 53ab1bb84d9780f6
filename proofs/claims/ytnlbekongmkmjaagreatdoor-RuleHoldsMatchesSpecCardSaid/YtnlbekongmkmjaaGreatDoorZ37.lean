/- RuleHoldsMatchesSpec, RuleFailsMatchSpec: the laws' walks, joined. -/
import Derived.Test.YtnlbekongmkmjaaGreatDoorZ35
import Derived.Test.YtnlbekongmkmjaaGreatDoorZ36
namespace Go.Proofs.YtnlbekongmkmjaaGreatDoor
set_option linter.unusedSimpArgs false
set_option linter.unusedVariables false
open Go.RowKit
set_option maxRecDepth 100000
theorem times_ok:TimesOk:=fun x y hx hy=>times1_sem x y hx hy
theorem law27_sem (c:Cond) (t:List Br) (hct:c.Txt) (hl:t.length≤9223372036854775807) (ht:∀ b ∈ t,b.Txt):Sem Tryz.prog 4 [.agg c.row,.sl 0 4 (t.map Br.row)] (.bool true):=
 law27_of (cmpOk_of times_ok) c t hct hl ht
theorem law28_sem (l:List Rul) (t:List Br) (hok:∀ r ∈ l,r.Ok) (hl:t.length≤9223372036854775807) (ht:∀ b ∈ t,b.Txt):Sem Tryz.prog 5 [.sl 0 7 (l.map Rul.row),.sl 0 4 (t.map Br.row)] (.bool true):=
 law28_of (cmpOk_of times_ok) l t hok hl ht
end Go.Proofs.YtnlbekongmkmjaaGreatDoor
