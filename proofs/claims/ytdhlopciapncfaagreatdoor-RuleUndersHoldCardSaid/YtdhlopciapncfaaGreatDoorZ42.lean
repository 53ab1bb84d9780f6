/- From what was read of an argument to data: trees, segments. -/
import Derived.Test.YtdhlopciapncfaaGreatDoorZ41
import Derived.Test.YtdhlopciapncfaaGreatDoorZ24
namespace Go.Proofs.YtdhlopciapncfaaGreatDoor
set_option linter.unusedSimpArgs false
set_option linter.unusedVariables false
open Go.ChangeShapes Go.WideShapes Go.ChangeAt Go.RowKit Go.Deep
theorem fz_sl_len {lim:Nat→Option Nat} {w:World} {v:Value} {sz:Nat} {rows:List (List D)} (h:Fz lim w v (.sl 0 sz rows)):rows.length≤9223372036854775807:=by
 cases h with
 |slNil=>simp
 |slE=>simp
 |sl cv hc hm hr h ih=>unfold maxLen at hm;omega
section
variable {H:Type} {enc:TypeId × Value→H} {w:World} {base:Nat} {held:Bool}
set_option maxRecDepth 100000 in
theorem cells_branch:Tryz.prog.cellsOf 78=4:=by kernel_rfl
set_option maxRecDepth 100000 in
theorem cells_segment:Tryz.prog.cellsOf 76=2:=by kernel_rfl
set_option maxRecDepth 100000 in
theorem cells_string2:Tryz.prog.cellsOf 9=1:=by kernel_rfl
set_option maxRecDepth 100000 in
theorem cells_branches1:Tryz.prog.cellsOf 26=1:=by kernel_rfl
def PTxt (p:List Str):Prop:=∀ s ∈ p,s.length≤9223372036854775807
def ETxt (e:El):Prop:=∀ p ∈ e,PTxt p
theorem slice_one {P:Program} {t e fuel:Nat} {cs:List Value} {x:DataW H × List MemPlace} (ht:P.underlying t=some (.slice e)) (h:DataW.trod enc P w base (fun _=>true) held fuel t cs=some x):∃ v,cs = [v]:=by
 rcases DataW.trod_slice ht h with ⟨h1,_⟩|⟨a,len,cap,_,_,_,_,h1,_⟩
 ·exact ⟨_,h1⟩
 ·exact ⟨_,h1⟩
set_option maxRecDepth 100000 in
theorem elem_rep {fuel:Nat} {cs:List Value} {x:DataW H × List MemPlace} (h:DataW.trod enc Tryz.prog w base (fun _=>true) held fuel 23 cs=some x):∃ p:List Str,PTxt p∧(repR p).length=1∧Row w cs (repR p):=by
 obtain ⟨v,rfl⟩:=slice_one Tryz.underlying23 h
 obtain ⟨p,v1,v2,v3⟩:=lift_sliceF (sz:=1) (row:=partR) (OkA:=fun s:Str=>s.length≤9223372036854775807) Tryz.underlying23 (by kernel_rfl) (by decide) (fun m hm cs x hx=>elem_str hx) h
 exact ⟨p,v1,rfl,Row.nil.cons v2 v3⟩
set_option maxRecDepth 100000 in
theorem elem_el {fuel:Nat} {cs:List Value} {x:DataW H × List MemPlace} (h:DataW.trod enc Tryz.prog w base (fun _=>true) held fuel 93 cs=some x):∃ e:El,ETxt e∧(elR e).length=1∧Row w cs (elR e):=by
 obtain ⟨hl,n,hfu,hf⟩:=cells_fieldsF Tryz.underlying93 (by kernel_rfl) (by kernel_rfl) h
 match cs,hl with
 |[c0],_=>
  obtain ⟨y0,hy0⟩:=hf 0 _ c0 rfl rfl
  obtain ⟨e,v1,v2,v3⟩:=lift_sliceF (sz:=1) (row:=repR) (OkA:=PTxt) Tryz.underlying91 (by kernel_rfl) (by decide) (fun m hm cs x hx=>elem_rep hx) hy0
  exact ⟨e,v1,rfl,Row.nil.cons v2 v3⟩
set_option maxRecDepth 100000 in
theorem elem_seg {fuel:Nat} {cs:List Value} {x:DataW H × List MemPlace} (h:DataW.trod enc Tryz.prog w base (fun _=>true) held fuel 76 cs=some x):∃ (t:Str) (els:List El),t.length≤9223372036854775807∧(∀ e ∈ els,ETxt e)∧els.length≤9223372036854775807∧Row w cs [.str t,.sl 0 1 (els.map elR)]:=by
 obtain ⟨hl,n,hfu,hf⟩:=cells_fieldsF Tryz.underlying76 (by kernel_rfl) (by kernel_rfl) h
 match cs,hl with
 |[c0,c1],_=>
  obtain ⟨t,rfl,ht⟩:=fld_str Tryz.underlying9 (hf 0 _ c0 rfl rfl)
  obtain ⟨y1,hy1⟩:=hf 1 _ c1 rfl rfl
  obtain ⟨els,v1,v2,v3⟩:=lift_sliceF (sz:=1) (row:=elR) (OkA:=ETxt) Tryz.underlying74 (by kernel_rfl) (by decide) (fun m hm cs x hx=>elem_el hx) hy1
  have hlen:=fz_sl_len v3
  rw [List.length_map] at hlen
  exact ⟨t,els,ht,v1,hlen,(Row.nil.cons v2 v3).str⟩
set_option maxRecDepth 100000 in
theorem elem_br:∀ (fuel:Nat) (cs:List Value) (x:DataW H × List MemPlace),DataW.trod enc Tryz.prog w base (fun _=>true) held fuel 78 cs=some x→∃ b:Br,b.Txt∧b.row.length=4∧Row w cs b.row:=by
 intro fuel
 induction fuel using Nat.strongRecOn with
 |_ fuel ih=>
  intro cs x h
  obtain ⟨xs,n,hfu,_,hl,hlen,hg⟩:=DataW.trod_struct Tryz.underlying78 h
  rw [cells_branch] at hl
  have hl3:xs.length=3:=hlen
  have g0:=hg 0 _ rfl
  have g1:=hg 1 _ rfl
  have g2:=hg 2 _ rfl
  match cs,hl with
  |[c0,c1,c2,c3],hl=>
   have e0:DataW.trod enc Tryz.prog w base (fun _=>true) held n 9 (([c0,c1,c2,c3].drop 0).take (Tryz.prog.cellsOf 9))=xs[0]?:=g0
   have e1:DataW.trod enc Tryz.prog w base (fun _=>true) held n 76 (([c0,c1,c2,c3].drop 1).take (Tryz.prog.cellsOf 76))=xs[1]?:=g1
   have e2:DataW.trod enc Tryz.prog w base (fun _=>true) held n 26 (([c0,c1,c2,c3].drop 3).take (Tryz.prog.cellsOf 26))=xs[2]?:=g2
   rw [cells_string2,List.getElem?_eq_getElem (by omega)] at e0
   rw [cells_segment,List.getElem?_eq_getElem (by omega)] at e1
   rw [cells_branches1,List.getElem?_eq_getElem (by omega)] at e2
   obtain ⟨nm,rfl,hn⟩:=fld_str Tryz.underlying9 ⟨_,e0⟩
   obtain ⟨t,els,s1,s2,s3,s4⟩:=elem_seg e1
   obtain ⟨ks,k1,k2,k3⟩:=lift_sliceF (sz:=4) (row:=Br.row) (OkA:=Br.Txt) Tryz.underlying26 (by kernel_rfl) (by decide) (fun m hm cs x hx=>ih m (by omega) cs x hx) e2
   have hkl:=fz_sl_len k3
   rw [List.length_map] at hkl
   refine ⟨.mk nm t els ks,.mk hn s1 s2 k1 hkl,by rw [Br.row_mk];rfl,?_⟩
   rw [Br.row_mk]
   have hs4:Row w [c1,c2] [.str t,.sl 0 1 (els.map elR)]:=s4
   obtain ⟨a1,a2⟩:=hs4.get 0 _ c1 rfl rfl
   obtain ⟨b1,b2⟩:=hs4.get 1 _ c2 rfl rfl
   exact Row.str (Row.cons a1 a2 (Row.cons b1 b2 (Row.cons k2 k3 Row.nil)))
set_option maxRecDepth 100000 in
theorem open_tree {v:Value} {d:DataW H} {p:List MemPlace} {r:Reach} {b0:Nat} (hv:Value.okWide Tryz.prog w r b0 26 v) (h:DataW.Trod enc Tryz.prog w base (fun _=>true) held 26 v d p):∃ l:List Br,(∀ b ∈ l,b.Txt)∧l.length≤9223372036854775807∧Fz S0.lim w v (.sl 0 4 (l.map Br.row)):=by
 obtain ⟨a0,len0,cap0,rfl⟩:=okWide_slice Tryz.underlying26 hv
 obtain ⟨fuel,hf⟩:=h
 obtain ⟨l,h1,_,h3⟩:=lift_slice (sz:=4) (row:=Br.row) (OkA:=Br.Txt) Tryz.underlying26 cells_branch (by decide) (fun fuel cs x hx=>elem_br fuel cs x hx) hf
 have hlen:=fz_sl_len h3
 rw [List.length_map] at hlen
 exact ⟨l,h1,hlen,h3⟩
end
end Go.Proofs.YtdhlopciapncfaaGreatDoor
