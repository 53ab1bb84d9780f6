/- RemapThensMatchSpec: the card. -/
import Derived.Test.YtnjgoldinaffgaaGreatDoorY43
import Derived.Test.YtnjgoldinaffgaaGreatDoorY44
namespace Go.Proofs.YtnjgoldinaffgaaGreatDoor.thens
open _root_.Go.Proofs.Tryz
set_option linter.unusedSimpArgs false
set_option linter.unusedVariables false
open Go.ChangeShapes Go.WideShapes Go.ChangeAt Go.RowKit Go.Deep
theorem plain (f:FuncId) (fn:Func) (hf:Tryz.pinned.checked.prog.funcNamed Rows.remapThensMatchSpecRow.func=some f) (hfn:Tryz.pinned.checked.prog.funcs[f]?=some fn):
  true=Tryz.pinned.checked.prog.looks []∧∀ (j:Nat) t,fn.params[j]?=some t→Tryz.pinned.checked.prog.wantsStandIn t=false:=by
 obtain rfl:f=3:=Option.some.inj (named_f.symm.trans hf) |>.symm
 obtain rfl:fn=Tryz.f3:=(Option.some.inj (func3.symm.trans hfn)).symm
 refine ⟨zIn,fun j t ht => ?_⟩
 rw [params3] at ht
 have ht':t=25∨t=25:=by simpa using Array.mem_of_getElem? ht
 rcases ht' with rfl|rfl
 ·exact (show Tryz.prog.wantsStandIn 25=false by kernel_rfl)
 ·exact (show Tryz.prog.wantsStandIn 25=false by kernel_rfl)
theorem card:Rows.RemapThensMatchSpecCardSaid:=
 Claim7.holds_tied_plain_at .later [] _ _ _ _ zQX (fun _ h=>by cases h) (by kernel_rfl) (fun _ h=>by cases h) remapThensMatchSpec_row_tie rfl ⟨rfl,rfl⟩ zK7 rfl plain (by kernel_rfl)
end Go.Proofs.YtnjgoldinaffgaaGreatDoor.thens
