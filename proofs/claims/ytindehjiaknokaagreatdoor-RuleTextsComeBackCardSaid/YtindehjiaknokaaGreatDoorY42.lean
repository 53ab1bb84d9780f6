/- RuleTextsComeBack: the card. -/
import Derived.Test.YtindehjiaknokaaGreatDoorY40
import Derived.Test.YtindehjiaknokaaGreatDoorY41
namespace Go.Proofs.YtindehjiaknokaaGreatDoor.comeback
set_option linter.unusedSimpArgs false
set_option linter.unusedVariables false
open Go.ChangeShapes Go.WideShapes Go.ChangeAt Go.RowKit Go.Deep
theorem plain (f:FuncId) (fn:Func) (hf:Tryz.pinned.checked.prog.funcNamed Rows.ruleTextsComeBackRow.func=some f) (hfn:Tryz.pinned.checked.prog.funcs[f]?=some fn):
  true=Tryz.pinned.checked.prog.looks []∧∀ (j:Nat) t,fn.params[j]?=some t→Tryz.pinned.checked.prog.wantsStandIn t=false:=by
 obtain rfl:f=4:=Option.some.inj (named_f.symm.trans hf) |>.symm
 obtain rfl:fn=Tryz.f4:=(Option.some.inj (Tryz.func4.symm.trans hfn)).symm
 refine ⟨pf_looks,fun j t ht => ?_⟩
 rw [Tryz.params4] at ht
 have ht':t=25∨t=9:=by simpa using Array.mem_of_getElem? ht
 rcases ht' with rfl|rfl
 ·exact (show Tryz.prog.wantsStandIn 25=false by kernel_rfl)
 ·exact (show Tryz.prog.wantsStandIn 9=false by kernel_rfl)
theorem card:Rows.RuleTextsComeBackCardSaid:=
 Claim7.holds_tied_plain_at .later [] _ _ _ _ said (fun _ h=>by cases h) (by kernel_rfl) (fun _ h=>by cases h) ruleTextsComeBack_row_tie rfl ⟨rfl,rfl⟩ pf_main rfl plain (by kernel_rfl)
end Go.Proofs.YtindehjiaknokaaGreatDoor.comeback
