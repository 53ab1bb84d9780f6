/- From what was read of an argument to data: slices, to whatever depth. -/
import Derived.Test.YtnjgoldinaffgaaGreatDoorY9
import Derived.Test.YtnjgoldinaffgaaGreatDoorY37
import Derived.Deep.Slices
namespace Go.Proofs.YtnjgoldinaffgaaGreatDoor
set_option linter.unusedSimpArgs false
set_option linter.unusedVariables false
open Go.ChangeShapes Go.WideShapes Go.ChangeAt Go.RowKit Go.Deep
def S0:Sig:=⟨fun _=>none,fun _=>0⟩
theorem zGB {P:Program} {f:Nat} {ds:List D} (h:Sem P f ds (.bool true)) {w:World} {vs:List Value} (hG:∀ (g:Nat) (φ:Obj→Prop),GB g=some φ→∃ o,w.heap[g]?=some o∧φ o) (hl:vs.length=ds.length) (hf:∀ (i:Nat) (d:D) (v:Value),ds[i]?=some d→vs[i]?=some v→Fz S0.lim w v d):
  Calls P f vs.toArray w fun e w'=>e=.returned (.bool true)∧Ext w w':=by
 refine (h.2.2 S0 w vs ⟨fun b x hx=>(nomatch hx),fun g φ h=>⟨rfl,hG g φ h⟩⟩ hl fun i d v hd hv=>.fz (hf i d v hd hv)).mono fun e w' ⟨v,S',he,_,ht,hr⟩ => ?_
 have hv:=hr.bool_inv
 subst hv
 exact ⟨he,ht.os,ht.tape,ht.output,ht.size,fun b hb=>(ht.free b hb rfl).1⟩
theorem zDm {P:Program} {W:World} {laid:List (String × DataW Unit)} {name:String} {k:IntKind} {zs:List Int} {g:Nat} {t e:TypeId} {n:Nat} (hL:laidMet P laid W) (hf:laid.filter (fun x=>x.1 == name) = [(name,Lib.tabData k zs)])
  (hg:P.globalNamed name=some g) (hty:(P.globals[g]?).map (·.type)=some t) (ht:P.underlying t=some (.array n e)) (he:P.underlying e=some (.int k)) (hce:P.cellsOf e=1) (hct:P.cellsOf t=n):∃ o,W.heap[g]?=some o∧zKW k zs o:=by
 have h1:=hL.filter fun x=>x.1 == name
 rw [hf] at h1
 have h2:=Lib.tabIs_of_head hg hty ht he hce hct h1
 unfold Lib.TabIs World.var? at h2
 rw [hg] at h2
 simp only [Option.bind_some] at h2
 split at h2
 ·rename_i cs e fz hh
  cases h2
  exact ⟨_,hh,e,fz,rfl⟩
 ·cases h2
theorem zQY {b o:Nat}:OkC S0.lim b o:=fun s hs=>by cases hs
section
variable {H:Type} {enc:TypeId × Value→H} {P:Program} {w:World} {base:Nat} {held:Bool}
structure Row (w:World) (cs:List Value) (ds:List D):Prop where
 len:cs.length=ds.length
 get:∀ (j:Nat) (d:D) (v:Value),ds[j]?=some d→cs[j]?=some v→v.oneCell'=true∧Fz S0.lim w v d
theorem Row.nil:Row w [] []:=⟨rfl,fun j d v h=>by simp at h⟩
theorem Row.cons {v:Value} {d:D} {cs:List Value} {ds:List D} (h1:v.oneCell'=true) (h2:Fz S0.lim w v d) (h:Row w cs ds):Row w (v::cs) (d::ds):=
 ⟨by simp [h.len],fun j e u hd hu=>by
  cases j with
  |zero=>cases hd;cases hu;exact ⟨h1,h2⟩
  | succ j=>exact h.get j e u (by simpa using hd) (by simpa using hu)⟩
theorem Row.str {s:Str} {cs:List Value} {ds:List D} (h:Row w cs ds):Row w (sv s::cs) (.str s::ds):=h.cons rfl (.str s)
theorem Row.int {k:IntKind} {n:Int} {cs:List Value} {ds:List D} (h:Row w cs ds):Row w (.int k n::cs) (.int k n::ds):=h.cons rfl (.int k n)
theorem Row.bool {b:Bool} {cs:List Value} {ds:List D} (h:Row w cs ds):Row w (.bool b::cs) (.bool b::ds):=h.cons rfl (.bool b)
theorem Row.agg {cs:List Value} {ds:List D} (h:Row w cs ds):Fz S0.lim w (.agg cs.toArray) (.agg ds):=
 .agg cs h.len (fun v hv=>by
  obtain ⟨j,hj,rfl⟩:=List.mem_iff_getElem.1 hv
  exact (h.get j _ _ (List.getElem?_eq_getElem (by rw [← h.len];exact hj)) (List.getElem?_eq_getElem hj)).1) fun j d v hd hv=>(h.get j d v hd hv).2
end
end Go.Proofs.YtnjgoldinaffgaaGreatDoor
