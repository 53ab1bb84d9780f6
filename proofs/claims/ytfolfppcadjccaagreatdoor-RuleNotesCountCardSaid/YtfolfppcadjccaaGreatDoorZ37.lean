/- From what was read of an argument to data: trees, segments. -/
import Derived.Test.YtfolfppcadjccaaGreatDoorZ36
import Derived.Test.YtfolfppcadjccaaGreatDoorZ23
namespace Go.Proofs.YtfolfppcadjccaaGreatDoor
set_option linter.unusedSimpArgs false
set_option linter.unusedVariables false
open Go.ChangeShapes Go.WideShapes Go.ChangeAt Go.RowKit Go.Deep
theorem fz_sl_len {lim:Nat→Option Nat} {w:World} {v:Value} {sz:Nat} {rows:List (List D)} (h:Fz lim w v (.sl 0 sz rows)):rows.length≤9223372036854775807:=by
 cases h with
 | slNil=>simp
 | slE=>simp
 | sl cv hc hm hr h ih=>unfold maxLen at hm;omega
section
variable {H:Type} {enc:TypeId × Value→H} {w:World} {base:Nat} {held:Bool}
def PTxt (p:List Str):Prop:=∀ s ∈ p,s.length≤9223372036854775807
def ETxt (e:El):Prop:=∀ p ∈ e,PTxt p
theorem slice_one {P:Program} {t e fuel:Nat} {cs:List Value} {x:DataW H × List MemPlace} (ht:P.underlying t=some (.slice e)) (h:DataW.trod enc P w base (fun _=>true) held fuel t cs=some x):∃ v,cs = [v]:=by
 rcases DataW.trod_slice ht h with ⟨h1,_⟩|⟨a,len,cap,_,_,_,_,h1,_⟩
 ·exact ⟨_,h1⟩
 ·exact ⟨_,h1⟩
set_option maxRecDepth 100000 in
theorem elem_rep {fuel:Nat} {cs:List Value} {x:DataW H × List MemPlace} (h:DataW.trod enc Tryz.prog w base (fun _=>true) held fuel 23 cs=some x):∃ p:List Str,PTxt p∧(repR p).length=1∧Row w cs (repR p):=by
 obtain ⟨v,rfl⟩:=slice_one Tryz.underlying23 h
 obtain ⟨p,v1,v2,v3⟩:=lift_sliceF (sz:=1) (row:=partR) (OkA:=fun s:Str=>s.length≤9223372036854775807) Tryz.underlying23 (by kernel_rfl) (by decide) (fun m hm cs x hx=>elem_str hx) h
 exact ⟨p,v1,rfl,Row.nil.cons v2 v3⟩
set_option maxRecDepth 100000 in
theorem elem_el {fuel:Nat} {cs:List Value} {x:DataW H × List MemPlace} (h:DataW.trod enc Tryz.prog w base (fun _=>true) held fuel 53 cs=some x):∃ e:El,ETxt e∧(elR e).length=1∧Row w cs (elR e):=by
 obtain ⟨hl,n,hfu,hf⟩:=cells_fieldsF Tryz.underlying53 (by kernel_rfl) (by kernel_rfl) h
 match cs,hl with
 | [c0],_=>
  obtain ⟨y0,hy0⟩:=hf 0 _ c0 rfl rfl
  obtain ⟨e,v1,v2,v3⟩:=lift_sliceF (sz:=1) (row:=repR) (OkA:=PTxt) Tryz.underlying51 (by kernel_rfl) (by decide) (fun m hm cs x hx=>elem_rep hx) hy0
  exact ⟨e,v1,rfl,Row.nil.cons v2 v3⟩
set_option maxRecDepth 100000 in
/-- The cells of a segment. -/
theorem elem_seg {fuel:Nat} {cs:List Value} {x:DataW H × List MemPlace} (h:DataW.trod enc Tryz.prog w base (fun _=>true) held fuel 47 cs=some x):∃ (t:Str) (els:List El),t.length≤9223372036854775807∧(∀ e ∈ els,ETxt e)∧els.length≤9223372036854775807∧Row w cs [.str t,.sl 0 1 (els.map elR)]:=by
 obtain ⟨hl,n,hfu,hf⟩:=cells_fieldsF Tryz.underlying47 (by kernel_rfl) (by kernel_rfl) h
 match cs,hl with
 | [c0,c1],_=>
  obtain ⟨t,rfl,ht⟩:=fld_str Tryz.underlying9 (hf 0 _ c0 rfl rfl)
  obtain ⟨y1,hy1⟩:=hf 1 _ c1 rfl rfl
  obtain ⟨els,v1,v2,v3⟩:=lift_sliceF (sz:=1) (row:=elR) (OkA:=ETxt) Tryz.underlying45 (by kernel_rfl) (by decide) (fun m hm cs x hx=>elem_el hx) hy1
  have hlen:=fz_sl_len v3
  rw [List.length_map] at hlen
  exact ⟨t,els,ht,v1,hlen,(Row.nil.cons v2 v3).str⟩
set_option maxRecDepth 100000 in
theorem open_seg {v:Value} {d:DataW H} {p:List MemPlace} {r:Reach} {b0:Nat} (hv:Value.okWide Tryz.prog w r b0 47 v) (h:DataW.Trod enc Tryz.prog w base (fun _=>true) held 47 v d p):∃ (t:Str) (els:List El),t.length≤9223372036854775807∧(∀ e ∈ els,ETxt e)∧els.length≤9223372036854775807∧Fz S0.lim w v (.agg [.str t,.sl 0 1 (els.map elR)]):=by
 obtain ⟨cs,rfl,hsz⟩:=okWide_struct Tryz.underlying47 hv
 obtain ⟨fuel,hf⟩:=h
 obtain ⟨t,els,h1,h2,h3,h4⟩:=elem_seg hf
 refine ⟨t,els,h1,h2,h3,?_⟩
 have:=h4.agg
 simpa [Value.cells] using this
end
end Go.Proofs.YtfolfppcadjccaaGreatDoor
