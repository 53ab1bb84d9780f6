/- From what was read of an argument to data: texts, bytes, whole numbers; the world's own variables. -/
import Derived.Test.YtnjgoldinaffgaaGreatDoorY17
import Derived.Test.YtnjgoldinaffgaaGreatDoorY38
import Derived.Shelf.Vars
namespace Go.Proofs.YtnjgoldinaffgaaGreatDoor
open _root_.Go.Proofs.Tryz
set_option linter.unusedSimpArgs false
set_option linter.unusedVariables false
open Go.ChangeShapes Go.WideShapes Go.ChangeAt Go.RowKit Go.Deep
section
variable {H:Type} {enc:TypeId × Value→H} {w:World} {base:Nat} {held:Bool}
end
set_option maxRecDepth 100000 in
theorem zHb {W:World} (h:W.ShapedOpen Tryz.prog):∃ o,W.heap[0]?=some o∧zNT o:=by
 obtain ⟨m,hm⟩:=cell_of_shapedOpen_int (P:=Tryz.prog) (g:=0) (t:=3) (zero := #[.int .i64 0]) h (of_decide_eq_true (by kernel_rfl)) (by kernel_rfl) rfl (by kernel_rfl) (by kernel_rfl) underlying3
 obtain ⟨cs,h1,h2,_⟩:=h.1 0 #[.int .i64 0] 3 (of_decide_eq_true (by kernel_rfl)) (by kernel_rfl)
 refine ⟨_,h1,cs,_,_,m,rfl,?_⟩
 simpa [World.cell?,h1] using hm
end Go.Proofs.YtnjgoldinaffgaaGreatDoor
