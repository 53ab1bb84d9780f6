/- From what was read of an argument to data: texts, bytes, whole numbers; the world's own variables. -/
import Derived.Test.YtfolfppcadjccaaGreatDoorZ13
import Derived.Test.YtfolfppcadjccaaGreatDoorZ34
import Derived.Shelf.Vars
namespace Go.Proofs.YtfolfppcadjccaaGreatDoor
set_option linter.unusedSimpArgs false
set_option linter.unusedVariables false
open Go.ChangeShapes Go.WideShapes Go.ChangeAt Go.RowKit Go.Deep
section
variable {H:Type} {enc:TypeId × Value→H} {w:World} {base:Nat} {held:Bool}
set_option maxRecDepth 100000 in
theorem open_u8 {v:Value} {d:DataW H} {p:List MemPlace} {r:Reach} {b0:Nat} (hv:Value.okWide Tryz.prog w r b0 5 v) (h:DataW.Trod enc Tryz.prog w base (fun _=>true) held 5 v d p):∃ c:UInt8,v=.int .u8 c.toNat:=by
 obtain ⟨n,rfl⟩:=okWide_int Tryz.underlying5 hv
 obtain ⟨fuel,hf⟩:=h
 obtain ⟨n',h1,_,hwf⟩:=DataW.trod_int Tryz.underlying5 hf
 obtain rfl:n=n':=by simpa [Value.cells] using h1
 have hb:0≤n∧n≤255:=by
  simp only [Lit.wf,Bool.and_eq_true,decide_eq_true_eq] at hwf
  exact hwf
 refine ⟨UInt8.ofNat n.toNat,?_⟩
 have e:((UInt8.ofNat n.toNat).toNat:Int)=n:=by
  rw [UInt8.toNat_ofNat']
  omega
 rw [e]
set_option maxRecDepth 100000 in
theorem elem_num {fuel:Nat} {cs:List Value} {x:DataW H × List MemPlace} (h:DataW.trod enc Tryz.prog w base (fun _=>true) held fuel 3 cs=some x):∃ n:Int,True∧(numR n).length=1∧Row w cs (numR n):=by
 obtain ⟨n,rfl,_,_⟩:=DataW.trod_int Tryz.underlying3 h
 exact ⟨n,trivial,rfl,Row.int (k:=.i64) (n:=n) (Row.nil (w:=w))⟩
set_option maxRecDepth 100000 in
theorem open_nums {v:Value} {d:DataW H} {p:List MemPlace} {r:Reach} {b0:Nat} (hv:Value.okWide Tryz.prog w r b0 44 v) (h:DataW.Trod enc Tryz.prog w base (fun _=>true) held 44 v d p):∃ l:List Int,Fz S0.lim w v (.sl 0 1 (l.map numR)):=by
 obtain ⟨a0,len0,cap0,rfl⟩:=okWide_slice Tryz.underlying44 hv
 obtain ⟨fuel,hf⟩:=h
 obtain ⟨l,_,_,h3⟩:=lift_slice (sz:=1) (row:=numR) (OkA:=fun _=>True) Tryz.underlying44 (by kernel_rfl) (by decide) (fun fuel cs x hx=>elem_num hx) hf
 exact ⟨l,h3⟩
end
set_option maxRecDepth 100000 in
/-- A variable that is some whole number. -/
theorem max_there {W:World} (h:W.ShapedOpen Tryz.prog):∃ o,W.heap[0]?=some o∧intO o:=by
 obtain ⟨m,hm⟩:=cell_of_shapedOpen_int (P:=Tryz.prog) (g:=0) (t:=3) (zero := #[.int .i64 0]) h (of_decide_eq_true (by kernel_rfl)) (by kernel_rfl) rfl (by kernel_rfl) (by kernel_rfl) Tryz.underlying3
 obtain ⟨cs,h1,h2,_⟩:=h.1 0 #[.int .i64 0] 3 (of_decide_eq_true (by kernel_rfl)) (by kernel_rfl)
 refine ⟨_,h1,cs,_,_,m,rfl,?_⟩
 simpa [World.cell?,h1] using hm
end Go.Proofs.YtfolfppcadjccaaGreatDoor
