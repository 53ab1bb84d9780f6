/- From what was read of an argument to data: texts, bytes, whole numbers; the world's own variables. -/
import Derived.Test.YtindehjiaknokaaGreatDoorY13
import Derived.Test.YtindehjiaknokaaGreatDoorY36
import Derived.Shelf.Vars
namespace Go.Proofs.YtindehjiaknokaaGreatDoor
set_option linter.unusedSimpArgs false
set_option linter.unusedVariables false
open Go.ChangeShapes Go.WideShapes Go.ChangeAt Go.RowKit Go.Deep
section
variable {H:Type} {enc:TypeId × Value→H} {w:World} {base:Nat} {held:Bool}
set_option maxRecDepth 100000 in
theorem open_txt {v:Value} {d:DataW H} {p:List MemPlace} {r:Reach} {b0:Nat} (hv:Value.okWide Tryz.prog w r b0 9 v) (h:DataW.Trod enc Tryz.prog w base (fun _=>true) held 9 v d p):∃ s:Str,v=sv s∧s.length≤9223372036854775807:=by
 obtain ⟨s,rfl⟩:=okWide_string Tryz.underlying9 hv
 obtain ⟨fuel,hf⟩:=h
 obtain ⟨s',h1,h2,h3⟩:=DataW.trod_string Tryz.underlying9 hf
 obtain rfl:s=s':=by simpa [Value.cells] using h1
 exact ⟨s.data.toList,rfl,h3⟩
end
set_option maxRecDepth 100000 in
theorem max_there {W:World} (h:W.ShapedOpen Tryz.prog):∃ o,W.heap[0]?=some o∧intO o:=by
 obtain ⟨m,hm⟩:=cell_of_shapedOpen_int (P:=Tryz.prog) (g:=0) (t:=3) (zero := #[.int .i64 0]) h (of_decide_eq_true (by kernel_rfl)) (by kernel_rfl) rfl (by kernel_rfl) (by kernel_rfl) Tryz.underlying3
 obtain ⟨cs,h1,h2,_⟩:=h.1 0 #[.int .i64 0] 3 (of_decide_eq_true (by kernel_rfl)) (by kernel_rfl)
 refine ⟨_,h1,cs,_,_,m,rfl,?_⟩
 simpa [World.cell?,h1] using hm
end Go.Proofs.YtindehjiaknokaaGreatDoor
