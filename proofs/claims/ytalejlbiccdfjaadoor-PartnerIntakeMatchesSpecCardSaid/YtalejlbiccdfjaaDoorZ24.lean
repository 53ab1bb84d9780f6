/- PartnerIntakeMatchesSpec: the card. -/
import Derived.Test.YtalejlbiccdfjaaDoorZ22
import Derived.Test.YtalejlbiccdfjaaDoorZ23
namespace Go.Proofs.YtalejlbiccdfjaaDoor.intake
set_option linter.unusedSimpArgs false
set_option linter.unusedVariables false
open Go.ChangeShapes Go.WideShapes Go.ChangeAt Go.RowKit Go.Deep
theorem plain (f:FuncId) (fn:Func) (hf:Tryd.pinned.checked.prog.funcNamed Rows.partnerIntakeMatchesSpecRow.func=some f) (hfn:Tryd.pinned.checked.prog.funcs[f]?=some fn):
  false=Tryd.pinned.checked.prog.looks []∧∀ (j:Nat) t,fn.params[j]?=some t→Tryd.pinned.checked.prog.wantsStandIn t=false:=by
 obtain rfl:f=4:=Option.some.inj (named_f.symm.trans hf) |>.symm
 obtain rfl:fn=Tryd.f4:=(Option.some.inj (Tryd.func4.symm.trans hfn)).symm
 refine ⟨pf_looks,fun j t ht => ?_⟩
 rw [Tryd.params4] at ht
 have ht':t=23∨t=3∨t=24:=by simpa using Array.mem_of_getElem? ht
 rcases ht' with rfl|rfl|rfl
 ·exact (show Tryd.prog.wantsStandIn 23=false by kernel_rfl)
 ·exact (show Tryd.prog.wantsStandIn 3=false by kernel_rfl)
 ·exact (show Tryd.prog.wantsStandIn 24=false by kernel_rfl)
theorem card:Rows.PartnerIntakeMatchesSpecCardSaid:=
 Claim7.holds_tied_plain_at .later [] _ _ _ _ said (fun _ h=>by cases h) (by kernel_rfl) (fun _ h=>by cases h) partnerIntakeMatchesSpec_row_tie rfl ⟨rfl,rfl⟩ pf_main rfl plain (by kernel_rfl)
end Go.Proofs.YtalejlbiccdfjaaDoor.intake
