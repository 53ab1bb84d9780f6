/- From what was read of an argument to data: slices, to whatever depth. -/
import Derived.Test.YtdhlopciapncfaaGreatDoorZ6
import Derived.Test.YtdhlopciapncfaaGreatDoorZ38
import Derived.Deep.Slices
namespace Go.Proofs.YtdhlopciapncfaaGreatDoor
set_option linter.unusedSimpArgs false
set_option linter.unusedVariables false
open Go.ChangeShapes Go.WideShapes Go.ChangeAt Go.RowKit Go.Deep
def S0:Sig:=⟨fun _=>none,fun _=>0⟩
theorem sem_trueG {P:Program} {f:Nat} {ds:List D} (h:Sem P f ds (.bool true)) {w:World} {vs:List Value} (hG:∀ (g:Nat) (φ:Obj→Prop),GB g=some φ→∃ o,w.heap[g]?=some o∧φ o) (hl:vs.length=ds.length) (hf:∀ (i:Nat) (d:D) (v:Value),ds[i]?=some d→vs[i]?=some v→Fz S0.lim w v d):
  Calls P f vs.toArray w fun e w'=>e=.returned (.bool true)∧Ext w w':=by
 refine (h.2.2 S0 w vs ⟨fun b x hx=>(nomatch hx),fun g φ h=>⟨rfl,hG g φ h⟩⟩ hl fun i d v hd hv=>.fz (hf i d v hd hv)).mono fun e w' ⟨v,S',he,_,ht,hr⟩ => ?_
 have hv:=hr.bool_inv
 subst hv
 exact ⟨he,ht.os,ht.tape,ht.output,ht.size,fun b hb=>(ht.free b hb rfl).1⟩
theorem laid_tab {P:Program} {W:World} {laid:List (String × DataW Unit)} {name:String} {k:IntKind} {zs:List Int} {g:Nat} {t e:TypeId} {n:Nat} (hL:laidMet P laid W) (hf:laid.filter (fun x=>x.1 == name) = [(name,Lib.tabData k zs)])
  (hg:P.globalNamed name=some g) (hty:(P.globals[g]?).map (·.type)=some t) (ht:P.underlying t=some (.array n e)) (he:P.underlying e=some (.int k)) (hce:P.cellsOf e=1) (hct:P.cellsOf t=n):∃ o,W.heap[g]?=some o∧tabO k zs o:=by
 have h1:=hL.filter fun x=>x.1 == name
 rw [hf] at h1
 have h2:=Lib.tabIs_of_head hg hty ht he hce hct h1
 unfold Lib.TabIs World.var? at h2
 rw [hg] at h2
 simp only [Option.bind_some] at h2
 split at h2
 ·rename_i cs e fz hh
  cases h2
  exact ⟨_,hh,e,fz,rfl⟩
 ·cases h2
theorem okc0 {b o:Nat}:OkC S0.lim b o:=fun s hs=>by cases hs
section
variable {H:Type} {enc:TypeId × Value→H} {P:Program} {w:World} {base:Nat} {held:Bool}
structure Row (w:World) (cs:List Value) (ds:List D):Prop where
 len:cs.length=ds.length
 get:∀ (j:Nat) (d:D) (v:Value),ds[j]?=some d→cs[j]?=some v→v.oneCell'=true∧Fz S0.lim w v d
theorem Row.nil:Row w [] []:=⟨rfl,fun j d v h=>by simp at h⟩
theorem Row.cons {v:Value} {d:D} {cs:List Value} {ds:List D} (h1:v.oneCell'=true) (h2:Fz S0.lim w v d) (h:Row w cs ds):Row w (v::cs) (d::ds):=
 ⟨by simp [h.len],fun j e u hd hu=>by
  cases j with
  |zero=>cases hd;cases hu;exact ⟨h1,h2⟩
  | succ j=>exact h.get j e u (by simpa using hd) (by simpa using hu)⟩
theorem Row.str {s:Str} {cs:List Value} {ds:List D} (h:Row w cs ds):Row w (sv s::cs) (.str s::ds):=h.cons rfl (.str s)
theorem Row.int {k:IntKind} {n:Int} {cs:List Value} {ds:List D} (h:Row w cs ds):Row w (.int k n::cs) (.int k n::ds):=h.cons rfl (.int k n)
theorem Row.bool {b:Bool} {cs:List Value} {ds:List D} (h:Row w cs ds):Row w (.bool b::cs) (.bool b::ds):=h.cons rfl (.bool b)
theorem Row.agg {cs:List Value} {ds:List D} (h:Row w cs ds):Fz S0.lim w (.agg cs.toArray) (.agg ds):=
 .agg cs h.len (fun v hv=>by
  obtain ⟨j,hj,rfl⟩:=List.mem_iff_getElem.1 hv
  exact (h.get j _ _ (List.getElem?_eq_getElem (by rw [← h.len];exact hj)) (List.getElem?_eq_getElem hj)).1) fun j d v hd hv=>(h.get j d v hd hv).2
def lenD {H:Type}:DataW H→Nat
 |.slice elems _=>elems.length
 |_=>0
theorem lift_sliceL {α:Type} {t e sz:Nat} {row:α→List D} {OkA:α→Prop} (ht:P.underlying t=some (.slice e)) (hc:P.cellsOf e=sz) (hsz:0 < sz)
  (elem:∀ (fuel:Nat) (cs:List Value) (x:DataW H × List MemPlace),DataW.trod enc P w base (fun _=>true) held fuel e cs=some x→∃ a,OkA a∧(row a).length=sz∧Row w cs (row a))
  {fuel:Nat} {v:Value} {x:DataW H × List MemPlace} (h:DataW.trod enc P w base (fun _=>true) held fuel t [v]=some x):∃ l:List α,(∀ a ∈ l,OkA a)∧v.oneCell'=true∧Fz S0.lim w v (.sl 0 sz (l.map row))∧l.length≤lenD x.1:=by
 subst hc
 rcases open_slice ht h with ⟨h1,_⟩|⟨a,len,cap,m,n,Dd,Pl,h1,_,hl,hm,hmm,hxx,hx⟩
 ·obtain rfl:v=.slice none 0 0:=by simpa using h1
  exact ⟨[],(fun a ha=>by cases ha),rfl,.slNil 0 _,Nat.zero_le _⟩
 ·obtain rfl:v=.slice (some a) len cap:=by simpa using h1
  simp only [if_true] at hmm
  subst hmm
  rcases Nat.eq_zero_or_pos m with h0|h0
  ·subst h0
   obtain rfl:len=0:=by omega
   exact ⟨[],(fun a ha=>by cases ha),rfl,.slE a _,Nat.zero_le _⟩
  ·have each:∀ i,i < m→∃ cs':List Value,∃ y:α,(∀ j,j < P.cellsOf e→w.cell? ((a.add (i * P.cellsOf e)).add j)=cs'[j]?)∧cs'.length=P.cellsOf e∧OkA y∧(row y).length=P.cellsOf e∧Row w cs' (row y):=fun i hi=>by
    obtain ⟨cs',k1,k2⟩:=hx i hi
    obtain ⟨_,k3,k4⟩:=World.cells?_some k1
    obtain ⟨y,k5,k6,k7⟩:=elem _ _ _ k2
    exact ⟨cs',y,k4,k3,k5,k6,k7⟩
   have hsp:∃ b o,a=⟨b,o,none⟩:=by
    obtain ⟨cs',y,k1,k2,_⟩:=each 0 h0
    obtain ⟨b,o,spot⟩:=a
    have h2:=k1 0 hsz
    rw [List.getElem?_eq_getElem (by omega)] at h2
    have hspot:spot=none:=by simpa [Addr.add] using World.cell?_spot h2
    subst hspot
    exact ⟨b,o,rfl⟩
   obtain ⟨b,o,rfl⟩:=hsp
   let y:Nat→α:=fun i=>if h:i < m then Classical.choose (Classical.choose_spec (each i h)) else Classical.choose (Classical.choose_spec (each 0 h0))
   let cv:Nat→List Value:=fun i=>if h:i < m then Classical.choose (each i h) else []
   have hy:∀ i,i < m→(∀ j,j < P.cellsOf e→w.cell? ⟨b,o+i * P.cellsOf e+j,none⟩=(cv i)[j]?)∧(cv i).length=P.cellsOf e∧OkA (y i)∧(row (y i)).length=P.cellsOf e∧Row w (cv i) (row (y i)):=fun i hi=>by
    have:=Classical.choose_spec (Classical.choose_spec (each i hi))
    simp only [y,cv,dif_pos hi]
    refine ⟨fun j hj => ?_,this.2⟩
    rw [← this.1 j hj,Go.WideShapes.add_plain,Go.WideShapes.add_plain]
   refine ⟨(List.range len).map y,fun a ha => ?_,rfl,?_,by rw [hxx];simp [lenD]⟩
   ·obtain ⟨i,hi,rfl⟩:=List.mem_map.1 ha
    exact (hy i (by have:=List.mem_range.1 hi;omega)).2.2.1
   ·have hlen:(((List.range len).map y).map row).length=len:=by simp
    have hat:∀ (k:Nat) (r:List D),(((List.range len).map y).map row)[k]?=some r→k < len∧r=row (y k):=fun k r hk=>by
     have hkl:k < len:=by have:=(gLt hk);simpa using this
     rw [List.getElem?_map,List.getElem?_map,List.getElem?_range hkl] at hk
     exact ⟨hkl,(Option.some.inj hk).symm⟩
    have hfz:=Fz.sl (lim:=S0.lim) (w:=w) (b:=b) (o:=o) (cap:=m) (sz:=P.cellsOf e) (rows:=((List.range len).map y).map row) (fun k j=>(cv k).getD j undef) (by rw [hlen];exact hl) hm (fun k r hk=>by
     obtain ⟨hkl,rfl⟩:=hat k r hk
     exact (hy k (by omega)).2.2.2.1) (fun k r j d hk hd=>by
     obtain ⟨hkl,rfl⟩:=hat k r hk
     obtain ⟨q1,q2,_,q4,q5⟩:=hy k (by omega)
     have hj:j < P.cellsOf e:=by rw [← q4];exact (gLt hd)
     have hv:(cv k)[j]?=some ((cv k).getD j undef):=by rw [List.getD_eq_getElem?_getD,List.getElem?_eq_getElem (by omega)];rfl
     exact ⟨by rw [q1 j hj];exact hv,okc0,(q5.get j d _ hd hv).1⟩) (fun k r j d hk hd=>by
     obtain ⟨hkl,rfl⟩:=hat k r hk
     obtain ⟨q1,q2,_,q4,q5⟩:=hy k (by omega)
     have hj:j < P.cellsOf e:=by rw [← q4];exact (gLt hd)
     have hv:(cv k)[j]?=some ((cv k).getD j undef):=by rw [List.getD_eq_getElem?_getD,List.getElem?_eq_getElem (by omega)];rfl
     exact (q5.get j d _ hd hv).2)
    rw [hlen] at hfz
    exact hfz
theorem lift_slice {α:Type} {t e sz:Nat} {row:α→List D} {OkA:α→Prop} (ht:P.underlying t=some (.slice e)) (hc:P.cellsOf e=sz) (hsz:0 < sz)
  (elem:∀ (fuel:Nat) (cs:List Value) (x:DataW H × List MemPlace),DataW.trod enc P w base (fun _=>true) held fuel e cs=some x→∃ a,OkA a∧(row a).length=sz∧Row w cs (row a))
  {fuel:Nat} {v:Value} {x:DataW H × List MemPlace} (h:DataW.trod enc P w base (fun _=>true) held fuel t [v]=some x):∃ l:List α,(∀ a ∈ l,OkA a)∧v.oneCell'=true∧Fz S0.lim w v (.sl 0 sz (l.map row)):=by
 obtain ⟨l,h1,h2,h3,_⟩:=lift_sliceL ht hc hsz elem h
 exact ⟨l,h1,h2,h3⟩
end
end Go.Proofs.YtdhlopciapncfaaGreatDoor
