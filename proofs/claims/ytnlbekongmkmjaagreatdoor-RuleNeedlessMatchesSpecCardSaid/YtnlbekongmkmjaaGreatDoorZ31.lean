/- From what was read of an argument to data: rules. -/
import Derived.Test.YtnlbekongmkmjaaGreatDoorZ30
import Derived.Test.YtnlbekongmkmjaaGreatDoorZ26
namespace Go.Proofs.YtnlbekongmkmjaaGreatDoor
set_option linter.unusedSimpArgs false
set_option linter.unusedVariables false
open Go.ChangeShapes Go.WideShapes Go.ChangeAt Go.RowKit Go.Deep
section
variable {H:Type} {enc:TypeId × Value→H} {w:World} {base:Nat} {held:Bool}
set_option maxRecDepth 100000 in
theorem cells_rule:Tryz.prog.cellsOf 42=7:=by kernel_rfl
set_option maxRecDepth 100000 in
theorem cells_cond6:Tryz.prog.cellsOf 32=6:=by kernel_rfl
set_option maxRecDepth 100000 in
theorem cells_string1:Tryz.prog.cellsOf 9=1:=by kernel_rfl
set_option maxRecDepth 100000 in
theorem elem_rule {fuel:Nat} {cs:List Value} {x:DataW H × List MemPlace} (h:DataW.trod enc Tryz.prog w base (fun _=>true) held fuel 42 cs=some x):∃ r:Rul,r.Ok∧r.row.length=7∧Row w cs r.row:=by
 obtain ⟨xs,n,_,_,hl,hlen,hg⟩:=DataW.trod_struct Tryz.underlying42 h
 rw [cells_rule] at hl
 have hl2:xs.length=2:=hlen
 have g0:=hg 0 _ rfl
 have g1:=hg 1 _ rfl
 match cs,hl with
 | c0::rest,hl=>
  have hr:rest.length=6:=by simpa using hl
  have e0:DataW.trod enc Tryz.prog w base (fun _=>true) held n 9 (((c0::rest).drop 0).take (Tryz.prog.cellsOf 9))=xs[0]?:=g0
  have e1:DataW.trod enc Tryz.prog w base (fun _=>true) held n 32 (((c0::rest).drop 1).take (Tryz.prog.cellsOf 32))=xs[1]?:=g1
  rw [cells_string1,List.drop_zero,List.take_succ_cons,List.take_zero,List.getElem?_eq_getElem (by omega)] at e0
  rw [cells_cond6,List.drop_succ_cons,List.drop_zero,List.take_of_length_le (by omega),List.getElem?_eq_getElem (by omega)] at e1
  obtain ⟨s,rfl,hs⟩:=fld_str Tryz.underlying9 ⟨_,e0⟩
  obtain ⟨c,h1,h2,h3⟩:=elem_cond n _ _ e1
  exact ⟨⟨s,c⟩,⟨hs,h1⟩,by rw [Rul.row,List.length_cons,h2],h3.str⟩
set_option maxRecDepth 100000 in
/-- An argument that is a slice of rules. -/
theorem open_rules {v:Value} {d:DataW H} {p:List MemPlace} {r:Reach} {b0:Nat} (hv:Value.okWide Tryz.prog w r b0 22 v) (h:DataW.Trod enc Tryz.prog w base (fun _=>true) held 22 v d p):∃ l:List Rul,(∀ p ∈ l,p.Ok)∧Fz S0.lim w v (.sl 0 7 (l.map Rul.row)):=by
 obtain ⟨a0,len0,cap0,rfl⟩:=okWide_slice Tryz.underlying22 hv
 obtain ⟨fuel,hf⟩:=h
 obtain ⟨l,h1,_,h3⟩:=lift_slice (sz:=7) (row:=Rul.row) (OkA:=Rul.Ok) Tryz.underlying22 cells_rule (by decide) (fun fuel cs x hx=>elem_rule hx) hf
 exact ⟨l,h1,h3⟩
end
end Go.Proofs.YtnlbekongmkmjaaGreatDoor
