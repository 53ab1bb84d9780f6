/- From what was read of an argument to data: conditions. -/
import Derived.Test.YtnjgoldinaffgaaGreatDoorY39
import Derived.Test.YtnjgoldinaffgaaGreatDoorY22
namespace Go.Proofs.YtnjgoldinaffgaaGreatDoor
open _root_.Go.Proofs.Tryz
set_option linter.unusedSimpArgs false
set_option linter.unusedVariables false
open Go.ChangeShapes Go.WideShapes Go.ChangeAt Go.RowKit Go.Deep
section
variable {H:Type} {enc:TypeId × Value→H} {P:Program} {w:World} {base:Nat} {held:Bool}
theorem fP {α:Type} {t e sz:Nat} {row:α→List D} {OkA:α→Prop} (ht:P.underlying t=some (.slice e)) (hc:P.cellsOf e=sz) (hsz:0 < sz) {fuel:Nat}
  (elem:∀ n,n < fuel→∀ (cs:List Value) (x:DataW H × List MemPlace),DataW.trod enc P w base (fun _=>true) held n e cs=some x→∃ a,OkA a∧(row a).length=sz∧Row w cs (row a))
  {v:Value} {x:DataW H × List MemPlace} (h:DataW.trod enc P w base (fun _=>true) held fuel t [v]=some x):∃ l:List α,(∀ a ∈ l,OkA a)∧v.oneCell'=true∧Fz S0.lim w v (.sl 0 sz (l.map row)):=by
 subst hc
 rcases DataW.trod_slice ht h with ⟨h1,_⟩|⟨a,len,cap,elems,rest,n,hfu,h1,hxx,hbb,hl,hm,hlen,hel,hsp,_⟩
 ·obtain rfl:v=.slice none 0 0:=by simpa using h1
  exact ⟨[],(fun a ha=>by cases ha),rfl,.slNil 0 _⟩
 ·obtain rfl:v=.slice (some a) len cap:=by simpa using h1
  rcases Nat.eq_zero_or_pos cap with h0|h0
  ·subst h0
   obtain rfl:len=0:=by omega
   exact ⟨[],(fun a ha=>by cases ha),rfl,.slE a _⟩
  ·have each:∀ i,i < cap→∃ cs':List Value,∃ y:α,(∀ j,j < P.cellsOf e→w.cell? ((a.add (i * P.cellsOf e)).add j)=cs'[j]?)∧cs'.length=P.cellsOf e∧OkA y∧(row y).length=P.cellsOf e∧Row w cs' (row y):=fun i hi=>by
    have key:∃ z,(w.cells? base (a.add (i * P.cellsOf e)) (P.cellsOf e)).bind (DataW.trod enc P w base (fun _=>true) held n e)=some z:=by
     by_cases hil:i < len
     ·exact ⟨elems[i],by rw [hel i hil,List.getElem?_eq_getElem (by omega)]⟩
     ·obtain ⟨g1,g2⟩:=hsp rfl
      have:=g2 (i - len) (by omega)
      rw [show len+(i - len)=i by omega] at this
      exact ⟨rest[i - len],by rw [this,List.getElem?_eq_getElem (by omega)]⟩
    obtain ⟨z,key⟩:=key
    obtain ⟨cs',k1,k2⟩:=Option.bind_eq_some_iff.1 key
    obtain ⟨_,k3,k4⟩:=World.cells?_some k1
    obtain ⟨y,k5,k6,k7⟩:=elem n (by omega) _ _ k2
    exact ⟨cs',y,k4,k3,k5,k6,k7⟩
   have hsp:∃ b o,a=⟨b,o,none⟩:=by
    obtain ⟨cs',y,k1,k2,_⟩:=each 0 h0
    obtain ⟨b,o,spot⟩:=a
    have h2:=k1 0 hsz
    rw [List.getElem?_eq_getElem (by omega)] at h2
    have hspot:spot=none:=by simpa [Addr.add] using World.cell?_spot h2
    subst hspot
    exact ⟨b,o,rfl⟩
   obtain ⟨b,o,rfl⟩:=hsp
   let y:Nat→α:=fun i=>if h:i < cap then Classical.choose (Classical.choose_spec (each i h)) else Classical.choose (Classical.choose_spec (each 0 h0))
   let cv:Nat→List Value:=fun i=>if h:i < cap then Classical.choose (each i h) else []
   have hy:∀ i,i < cap→(∀ j,j < P.cellsOf e→w.cell? ⟨b,o+i * P.cellsOf e+j,none⟩=(cv i)[j]?)∧(cv i).length=P.cellsOf e∧OkA (y i)∧(row (y i)).length=P.cellsOf e∧Row w (cv i) (row (y i)):=fun i hi=>by
    have:=Classical.choose_spec (Classical.choose_spec (each i hi))
    simp only [y,cv,dif_pos hi]
    refine ⟨fun j hj => ?_,this.2⟩
    rw [← this.1 j hj,Go.WideShapes.add_plain,Go.WideShapes.add_plain]
   refine ⟨(List.range len).map y,fun a ha => ?_,rfl,?_⟩
   ·obtain ⟨i,hi,rfl⟩:=List.mem_map.1 ha
    exact (hy i (by have:=List.mem_range.1 hi;omega)).2.2.1
   ·have hlen:(((List.range len).map y).map row).length=len:=by simp
    have hat:∀ (k:Nat) (r:List D),(((List.range len).map y).map row)[k]?=some r→k < len∧r=row (y k):=fun k r hk=>by
     have hkl:k < len:=by have:=(bC hk);simpa using this
     rw [List.getElem?_map,List.getElem?_map,List.getElem?_range hkl] at hk
     exact ⟨hkl,(Option.some.inj hk).symm⟩
    have hfz:=Fz.sl (lim:=S0.lim) (w:=w) (b:=b) (o:=o) (cap:=cap) (sz:=P.cellsOf e) (rows:=((List.range len).map y).map row) (fun k j=>(cv k).getD j undef) (by rw [hlen];exact hl) hm (fun k r hk=>by
     obtain ⟨hkl,rfl⟩:=hat k r hk
     exact (hy k (by omega)).2.2.2.1) (fun k r j d hk hd=>by
     obtain ⟨hkl,rfl⟩:=hat k r hk
     obtain ⟨q1,q2,_,q4,q5⟩:=hy k (by omega)
     have hj:j < P.cellsOf e:=by rw [← q4];exact (bC hd)
     have hv:(cv k)[j]?=some ((cv k).getD j undef):=by rw [List.getD_eq_getElem?_getD,List.getElem?_eq_getElem (by omega)];rfl
     exact ⟨by rw [q1 j hj];exact hv,zQY,(q5.get j d _ hd hv).1⟩) (fun k r j d hk hd=>by
     obtain ⟨hkl,rfl⟩:=hat k r hk
     obtain ⟨q1,q2,_,q4,q5⟩:=hy k (by omega)
     have hj:j < P.cellsOf e:=by rw [← q4];exact (bC hd)
     have hv:(cv k)[j]?=some ((cv k).getD j undef):=by rw [List.getD_eq_getElem?_getD,List.getElem?_eq_getElem (by omega)];rfl
     exact (q5.get j d _ hd hv).2)
    rw [hlen] at hfz
    exact hfz
theorem iS {spare:Nat→Bool} {t:TypeId} {fs:Array Field} {fuel:Nat} {cs:List Value} {x:DataW H × List MemPlace} (hs:P.underlying t=some (.struct fs)) (hone:oneCellFields P fs=true) (hC:P.cellsOf t=fs.size)
  (h:DataW.trod enc P w base spare held fuel t cs=some x):cs.length=fs.size∧∃ n,fuel=n+1∧∀ (i:Nat) (f:Field) (c:Value),fs[i]?=some f→cs[i]?=some c→∃ y,DataW.trod enc P w base spare held n f.type [c]=some y:=by
 obtain ⟨xs,n,hfu,_,hl,hlen,hg⟩:=DataW.trod_struct hs h
 refine ⟨by rw [hl,hC],n,hfu,fun i f c hf hc => ?_⟩
 obtain ⟨ho,hk⟩:=hone_of hone i f hf
 have h1:=hg i f hf
 rw [ho,hk] at h1
 have hlt:=(bC hc)
 have hone':(cs.drop i).take 1 = [c]:=by
  rw [List.drop_eq_getElem_cons hlt]
  have:=(List.getElem?_eq_some_iff.1 hc).2
  rw [this]
  rfl
 rw [hone'] at h1
 have hix:i < xs.length:=by rw [hlen];exact (Array.getElem?_eq_some_iff.1 hf).1
 rw [List.getElem?_eq_getElem hix] at h1
 exact ⟨_,h1⟩
end
section
variable {H:Type} {enc:TypeId × Value→H} {w:World} {base:Nat} {held:Bool}
set_option maxRecDepth 100000 in
theorem zKs {fuel:Nat} {cs:List Value} {x:DataW H × List MemPlace} (h:DataW.trod enc Tryz.prog w base (fun _=>true) held fuel 9 cs=some x):∃ s:Str,s.length≤9223372036854775807 ∧ [D.str s].length=1∧Row w cs [.str s]:=by
 obtain ⟨s,rfl,_,h3⟩:=DataW.trod_string underlying9 h
 refine ⟨s.data.toList,?_,rfl,?_⟩
 ·have hz:s.size=s.data.toList.length:=Array.length_toList.symm
  unfold maxLen at h3
  omega
 ·have:=Row.str (s:=s.data.toList) (Row.nil (w:=w))
  have e:sv s.data.toList=.string s:=by
   show Value.string ⟨s.data.toList.toArray⟩=_
   rw [Array.toArray_toList]
  rw [e] at this
  exact this
set_option maxRecDepth 100000 in
theorem zHq:∀ (fuel:Nat) (cs:List Value) (x:DataW H × List MemPlace),DataW.trod enc Tryz.prog w base (fun _=>true) held fuel 62 cs=some x→∃ c:Cond,c.Txt∧c.row.length=6∧Row w cs c.row:=by
 intro fuel
 induction fuel using Nat.strongRecOn with
 |_ fuel ih=>
  intro cs x h
  obtain ⟨hl,n,hfu,hf⟩:=iS underlying62 (by kernel_rfl) (by kernel_rfl) h
  match cs,hl with
  |[c0,c1,c2,c3,c4,c5],_=>
   obtain ⟨k,rfl,_⟩:=nC underlying3 (hf 0 _ c0 rfl rfl)
   obtain ⟨y1,hy1⟩:=hf 1 _ c1 rfl rfl
   obtain ⟨ks,g1,g2,g3⟩:=fP (sz:=6) (row:=Cond.row) (OkA:=Cond.Txt) underlying60 (by kernel_rfl) (by decide) (fun m hm cs x hx=>ih m (by omega) cs x hx) hy1
   obtain ⟨p,rfl,hp⟩:=hJ underlying9 (hf 2 _ c2 rfl rfl)
   obtain ⟨y3,hy3⟩:=hf 3 _ c3 rfl rfl
   obtain ⟨vs,v1,v2,v3⟩:=fP (sz:=1) (row:=fun s => [.str s]) (OkA:=fun s:Str=>s.length≤9223372036854775807) underlying52 (by kernel_rfl) (by decide) (fun m hm cs x hx=>zKs hx) hy3
   obtain ⟨lo,rfl,_⟩:=nC underlying3 (hf 4 _ c4 rfl rfl)
   obtain ⟨hi,rfl,_⟩:=nC underlying3 (hf 5 _ c5 rfl rfl)
   refine ⟨.mk k ks p vs lo hi,.mk hp v1 g1,by rw [Cond.row_mk];rfl,?_⟩
   rw [Cond.row_mk]
   exact ((((Row.nil.int.int).cons v2 v3).str).cons g2 g3).int
end
end Go.Proofs.YtnjgoldinaffgaaGreatDoor
