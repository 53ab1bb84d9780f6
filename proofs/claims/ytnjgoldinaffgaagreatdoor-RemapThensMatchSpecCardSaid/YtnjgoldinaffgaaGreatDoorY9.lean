/- A drawn region by all sets of operations that may have come so far: one frame a set. Blocks that a walk by hand owns and writes. -/
import Derived.Test.YtnjgoldinaffgaaGreatDoorY8
import Derived.Deep.LoopGhost
import Derived.Lib.SplitLaws
import Derived.Lib.IndexBytes
import Derived.Lib.IndexLaws
namespace Go.Proofs.YtnjgoldinaffgaaGreatDoor
set_option linter.unusedSimpArgs false
set_option linter.unusedVariables false
open Go.RowKit
variable {ops:List Oper}
def rQ (E:List Bool) (i:Nat):Bool:=E.getD i false
def jX (ops:List Oper) (E:List Bool):List Nat:=(List.range ops.length).filter fun i => !(rQ E i) && (match ops[i]? with
 |some o=>o.after.toList.all fun e => !(Region.binds .any e) || rQ E e.on
 | none=>false)
def zIU (o:Oper):Bool:=match o.op with
 |.move _=>true
 |.assign _=>true
 |.extract _ _=>true
 |_=>false
def zA8 (ops:List Oper):List Nat→Option Nat
 |[]=>none
 |i::r=>match ops[i]? with
  |some o=>match zIU o with
   |true=>some i
   |false=>zA8 ops r
  |none=>zA8 ops r
theorem yL {ops:List Oper}:∀ {is:List Nat} {i:Nat},zA8 ops is=some i→i ∈ is∧∃ o,ops[i]?=some o∧zIU o=true
 |[],_,h=>by cases h
 |k::r,i,h=>by
  simp only [zA8] at h
  split at h
  ·rename_i o ho
   split at h
   ·rename_i hk
    cases h
    exact ⟨by simp,o,ho,hk⟩
   ·obtain ⟨h1,h2⟩:=yL h
    exact ⟨List.mem_cons_of_mem _ h1,h2⟩
  ·obtain ⟨h1,h2⟩:=yL h
   exact ⟨List.mem_cons_of_mem _ h1,h2⟩
def goI (ops:List Oper) (is:List Nat):List Nat:=match zA8 ops is with
 |some i => [i]
 |none=>is
def zAN:List Bool→List Bool→Bool
 |[],[]=>true
 |true::r,true::s=>zAN r s
 |false::r,false::s=>zAN r s
 |_,_=>false
theorem sB:∀ {a b:List Bool},zAN a b=true→a=b
 |[],[],_=>rfl
 |true::r,true::s,h=>by rw [sB (a:=r) (b:=s) h]
 |false::r,false::s,h=>by rw [sB (a:=r) (b:=s) h]
 |[],_::_,h=>by cases h
 |true::_,[],h=>by cases h
 |false::_,[],h=>by cases h
 |true::_,false::_,h=>by cases h
 |false::_,true::_,h=>by cases h
def oY:List (List Bool)→List Bool→Nat→Option Nat
 |[],_,_=>none
 |x::r,E,k=>match zAN x E with
  |true=>some k
  |false=>oY r E (k+1)
theorem tC:∀ {L:List (List Bool)} {E:List Bool} {k p:Nat},oY L E k=some p→k≤p∧L[p - k]?=some E
 |[],_,_,_,h=>by cases h
 |x::r,E,k,p,h=>by
  simp only [oY] at h
  split at h
  ·rename_i hx
   cases h
   have:=sB hx
   subst this
   exact ⟨Nat.le_refl _,by simp⟩
  ·obtain ⟨h1,h2⟩:=tC h
   refine ⟨by omega,?_⟩
   rw [show p - k=(p - (k+1))+1 by omega,List.getElem?_cons_succ]
   exact h2
def okI (ops:List Oper) (n:Nat) (L:List (List Bool)):Bool:=
 jO ops.toArray && (match L with
  |E::_=>zAN E (ops.map fun _=>false)
  | _=>false) &&
 (L.all fun E=>Nat.beq E.length ops.length && (match jX ops E with
  |[]=>zAN E (L.getLastD []) && E.all (fun b=>b)
  | _ => !(E.all fun b=>b))) &&
 ((match oY L (L.getLastD []) 0 with
  |some p=>Nat.beq (p+1) L.length
  |none=>false) && (ops.all fun o=>match o.dst with
  |some d=>Nat.blt d n
  | none=>true))
structure EqF (a b:List D):Prop where
 h:a=b
structure AndI (p q:Prop):Prop where
 l:p
 r:q
structure ExE (F:List D→Prop):Prop where
 h:∃ f,F f
theorem ExE.go {F:List D→Prop} {f:List D} (h:F f):ExE F:=⟨f,h⟩
def ExF:Nat→(List (List D)→Prop)→Prop
 |0,K=>K []
 |n+1,K=>ExE fun f=>ExF n fun l=>K (f::l)
theorem zKN:∀ {n:Nat} {K:List (List D)→Prop},ExF n K→∃ l:List (List D),l.length=n∧K l
 |0,K,h=>⟨[],rfl,h⟩
 |n+1,K,h=>by
  obtain ⟨f,h⟩:=h.h
  obtain ⟨l,hl,hk⟩:=zKN h
  exact ⟨f::l,by simp [hl],hk⟩
def zII (fr:List D) (i:Nat):List D:=match fr[i]? with
 |some (.alc u off)=>match fr[u]? with
  |some (.obj cs)=>match cs[off]? with
   |some d=>match d.passes with
    |true=>fr.set i d
    |false=>fr
   |none=>fr
  |_=>fr
 |_=>fr
def zGf:Nat→List D→List Nat
 |_,[] => []
 |i,.alc _ _::r=>i::zGf (i+1) r
 |i,_::r=>zGf (i+1) r
def zC0 (fr:List D):List D:=(zGf 0 fr).foldl zII fr
theorem zC1 {S:Sig} {w:World} {a:Act} {fr:List D} (h:FR S w a fr) (i:Nat):FR S w a (zII fr i):=by
 unfold zII
 split
 ·rename_i u off hi
  split
  ·rename_i cs hu
   split
   ·rename_i d hd
    split
    ·rename_i hp
     obtain ⟨v,hv,hs⟩:=h.at hi
     obtain ⟨v2,hv2,hs2⟩:=h.at hu
     have hr:=(Rep.obj_cell hs2.1 hd hs.2).passes hp
     exact h.setD hi rfl hv (.fz hr) (fun t ht=>(D.passes_men hp ht).elim)
    ·exact h
   ·exact h
  ·exact h
 ·exact h
theorem kR {S:Sig} {w:World} {a:Act} {fr:List D} (h:FR S w a fr):FR S w a (zC0 fr):=by
 unfold zC0
 generalize zGf 0 fr=l
 induction l generalizing fr with
 |nil=>exact h
 |cons i l ih=>exact ih (zC1 h i)
def zFs (P:Program) (T:Nat→Option TI) (Z:Nat→Option (List Value)) (M:Nat→Bool) (ops:List Oper) (o:Oper) (fr:List D) (K:List D→Prop):Prop:=
 match o.guard with
 |none=>xK P T Z M o fr K
 |some (j,want)=>match pC ops fr j want with
  |some c=>aN (zCI o fr) fun fr=>zA P T Z o c fr K
  |none=>False
def wO (P:Program) (T:Nat→Option TI) (Z:Nat→Option (List Value)) (M:Nat→Bool) (ops:List Oper) (L:List (List Bool)) (F:List (List D)) (fr:List D) (E:List Bool):List Nat→Prop
 |[]=>True
 | i::r=>AndI (match ops[i]? with
  |some o=>match oY L (E.set i true) 0 with
   |some p=>match F[p]? with
    |some g=>zFs P T Z M ops o fr fun fr'=>aN (zC0 fr') fun fr'=>EqF fr' g
    |none=>False
   |none=>False
  | none=>False) (wO P T Z M ops L F fr E r)
def zEm (P:Program) (T:Nat→Option TI) (Z:Nat→Option (List Value)) (M:Nat→Bool) (ops:List Oper) (L:List (List Bool)) (F:List (List D)):List (List Bool)→List (List D)→Prop
 |[],[]=>True
 |E::Ls,fr::Fs=>AndI (wO P T Z M ops L F fr E (goI ops (jX ops E))) (zEm P T Z M ops L F Ls Fs)
 |_,_=>False
structure DrawI (ops:List Oper) (n:Nat) (F:List (List Bool)→Prop):Prop where
 h:∃ L,okI ops n L=true∧F L
theorem DrawI.go {n:Nat} {F:List (List Bool)→Prop} (L:List (List Bool)) (h1:okI ops n L=true) (h2:F L):DrawI ops n F:=⟨L,h1,h2⟩
def vcI (P:Program) (T:Nat→Option TI) (Z:Nat→Option (List Value)) (M:Nat→Bool) (ops:List Oper) (fr:List D) (K:List D→Prop):Prop:=
 DrawI ops fr.length fun L=>ExF (L.length - 1) fun Fs=>AndI (zEm P T Z M ops L (fr::Fs) L (fr::Fs)) (K ((fr::Fs).getLastD []))
section
variable {P:Program} {T:Nat→Option TI} {Z:Nat→Option (List Value)} {M:Nat→Bool}
theorem qS {ops:List Oper} {L:List (List Bool)} {F:List (List D)} {fr:List D} {E:List Bool}:∀ {is:List Nat},wO P T Z M ops L F fr E is→∀ i ∈ is,∃ (o:Oper) (p:Nat) (g:List D),ops[i]?=some o∧oY L (E.set i true) 0=some p∧F[p]?=some g∧zFs P T Z M ops o fr fun fr'=>aN (zC0 fr') fun fr'=>EqF fr' g
 |[],_,i,hi=>by cases hi
 |k::r,h,i,hi=>by
  rcases List.mem_cons.1 hi with rfl|hi
  ·have h1:=h.l
   split at h1
   ·rename_i o ho
    split at h1
    ·rename_i p hp
     split at h1
     ·rename_i g hg
      exact ⟨o,p,g,ho,hp,hg,h1⟩
     ·exact h1.elim
    ·exact h1.elim
   ·exact h1.elim
  ·exact qS h.r i hi
theorem zAD {ops:List Oper} {L:List (List Bool)} {F:List (List D)}:∀ {Ls:List (List Bool)} {Fs:List (List D)},zEm P T Z M ops L F Ls Fs→Ls.length=Fs.length∧∀ (p:Nat) (E:List Bool) (fr:List D),Ls[p]?=some E→Fs[p]?=some fr→wO P T Z M ops L F fr E (goI ops (jX ops E))
 |[],[],_=>⟨rfl,fun p E fr h=>by simp at h⟩
 |E::Ls,fr::Fs,h=>by
  obtain ⟨h1,h2⟩:=zAD h.r
  refine ⟨by simp [h1],fun p E' fr' hE hF => ?_⟩
  cases p with
  |zero=>cases hE;cases hF;exact h.l
  |succ p=>exact h2 p E' fr' (by simpa using hE) (by simpa using hF)
 |[],_::_,h=>h.elim
 |_::_,[],h=>h.elim
theorem zFN {o:Oper} {a:Act} {w:World} {K:Act→World→Prop} (hk:zIU o=true) (h:o.wp P a w K fun _ _ _=>False):∃ v,(∀ w',(execOp a.eval o).run P w'=.ok (.value v) w')∧K (a.put o.dst v) w:=by
 obtain ⟨dst,op,ty,pos,after,guard⟩:=o
 cases op<;>(try cases hk)
 case move x=>exact ⟨a.eval x,fun _=>rfl,h⟩
 case assign x=>exact ⟨a.eval x,fun _=>rfl,h⟩
 case extract t ix=>
  unfold Oper.wp at h
  have e:∀ w',(execOp a.eval ⟨dst,.extract t ix,ty,pos,after,guard⟩).run P w'=Go.Sem.run P (do let x ← Instr.extract (a.eval t) ix;pure (Next.value x)) w':=fun _=>rfl
  rw [e] at h
  cases ht:a.eval t with
  |tuple vs=>
   simp only [ht,Instr.extract] at h e
   cases hv:vs[ix]? with
   |some v=>
    rw [hv] at h
    refine ⟨v,fun w' => ?_,h⟩
    rw [e,hv]
    rfl
   |none=>
    rw [hv] at h
    exact h.elim
  |_=>
   simp only [ht,Instr.extract] at h
   exact h.elim
theorem zGr (hT:TOk P T Z) (hm:P.follows .mixedOrders=true) {id:Nat} {l:List Oper} {fr:List D} {K:List D→Prop} (h:vcI P T Z M l fr K) {S:Sig} {w:World} {a:Act} (hF:FR S w a fr) {Q:Exit→Act→World→Prop}
  (hK:∀ fr' S' w' a',K fr'→Trans S w S' w'→FR S' w' a' fr'→Q .normal a' w'):(Code.region id l.toArray true).wp P Q a w:=by
 obtain ⟨L,hok,h⟩:=h.h
 obtain ⟨Fs,hFl,hst,hk⟩:=zKN h
 simp only [okI,Bool.and_eq_true] at hok
 obtain ⟨⟨⟨hpar,h0⟩,hall⟩,hlast,hops⟩:=hok
 obtain ⟨hlen,hsteps⟩:=zAD hst
 refine wp_region_noPanic (wp_region_any hm ?_)
 have hE:∀ p E,L[p]?=some E→E.length=l.length∧((jX l E = []∧E=L.getLastD []∧∀ j,j < l.length→rQ E j=true)∨(jX l E ≠ []∧∃ j,j < l.length∧rQ E j=false)):=fun p E hp=>by
  have:=List.all_eq_true.1 hall E (aK hp)
  simp only [Bool.and_eq_true] at this
  have hl:=Nat.eq_of_beq_eq_true this.1
  refine ⟨hl,?_⟩
  have h2:=this.2
  split at h2
  ·rename_i hr
   simp only [Bool.and_eq_true] at h2
   refine .inl ⟨hr,sB h2.1,fun j hj => ?_⟩
   have hjl:j < E.length:=by omega
   have:=List.all_eq_true.1 h2.2 E[j] (List.getElem_mem hjl)
   simp only [rQ,List.getD_eq_getElem?_getD,List.getElem?_eq_getElem hjl,Option.getD_some]
   exact this
  ·rename_i hr
   refine .inr ⟨hr,?_⟩
   simp only [Bool.not_eq_true',List.all_eq_false] at h2
   obtain ⟨b,hb,hbf⟩:=h2
   obtain ⟨j,hj,rfl⟩:=List.mem_iff_getElem.1 hb
   refine ⟨j,by omega,?_⟩
   simp only [rQ,List.getD_eq_getElem?_getD,List.getElem?_eq_getElem hj,Option.getD_some]
   simpa using hbf
 -- whatever came: the rest goes well
 have key:∀ (fuel p:Nat) (E:List Bool) (g:List D),oY L E 0=some p→(fr::Fs)[p]?=some g→∀ (listed:Array Bool) (S1:Sig) (w1:World) (b:Act),listed.size=l.length→(∀ j,j < l.length→listed.getD j false=rQ E j)→l.length≤fuel+listed.toList.countP (fun x=>x)→FR S1 w1 b g→Trans S w S1 w1→
   wpAny P .any l.toArray (NoPanic Q) fuel listed b w1:=by
  have hready:∀ (E:List Bool) (listed:Array Bool),listed.size=l.length→(∀ j,j < l.length→listed.getD j false=rQ E j)→E.length=l.length→∀ i,i ∈ Region.ready .any l.toArray listed↔i ∈ jX l E:=fun E listed hsz hbit hEl i=>by
   have hb:∀ k,listed.getD k false=rQ E k:=fun k=>by
    rcases Nat.lt_or_ge k l.length with hk|hk
    ·exact hbit k hk
    ·have h1:¬ k < listed.size:=by omega
     have h2:E[k]?=none:=List.getElem?_eq_none (by omega)
     simp [rQ,h1,List.getD_eq_getElem?_getD,h2]
   rw [mem_ready,jX,List.mem_filter,List.mem_range]
   simp only [Bool.and_eq_true,Bool.not_eq_true']
   constructor
   ·rintro ⟨g0,o,ho,hal⟩
    have ho':l[i]?=some o:=by simpa using ho
    have hil:=(List.getElem?_eq_some_iff.1 ho').1
    refine ⟨hil,?_,?_⟩
    ·rw [← hb]
     have:i < listed.size:=by omega
     simp [this] at g0 ⊢
     exact g0
    ·rw [ho']
     simp only [List.all_eq_true,Bool.or_eq_true,Bool.not_eq_true']
     intro e he
     cases hbd:Region.binds .any e with
     |false=>exact .inl rfl
     |true=>right;rw [← hb];exact hal e (by simpa using he) hbd
   ·rintro ⟨hil,g0,g1⟩
    rw [← hb] at g0
    have hsi:i < listed.size:=by omega
    have ho':l[i]?=some l[i]:=List.getElem?_eq_getElem hil
    rw [ho'] at g1
    simp only [List.all_eq_true,Bool.or_eq_true,Bool.not_eq_true'] at g1
    refine ⟨by simp [hsi] at g0 ⊢;exact g0,l[i],by simp [hil],fun e he hbd => ?_⟩
    rcases g1 e (by simpa using he) with h1|h1
    ·rw [hbd] at h1;cases h1
    ·rw [hb];exact h1
  have fin:∀ (p:Nat) (E:List Bool) (g:List D),oY L E 0=some p→(fr::Fs)[p]?=some g→jX l E = []→∀ (S1:Sig) (w1:World) (b:Act),FR S1 w1 b g→Trans S w S1 w1→NoPanic Q .normal b w1:=fun p E g hp hg hr S1 w1 b hf ht=>by
   have hpE:=(tC hp).2
   rw [Nat.sub_zero] at hpE
   rcases (hE p E hpE).2 with ⟨_,rfl,_⟩|⟨hn,_⟩
   ·rw [hp] at hlast
    simp only at hlast
    have hpl:=Nat.eq_of_beq_eq_true hlast
    have:(fr::Fs).getLastD []=g:=by
     rw [List.getLastD_eq_getLast?,List.getLast?_eq_getElem?,← hlen]
     rw [show L.length - 1=p by omega,hg]
     rfl
    rw [this] at hk
    exact NoPanic.normal (hK g S1 w1 b hk ht hf)
   ·exact absurd hr hn
  intro fuel
  induction fuel with
  |zero=>
   intro p E g hp hg listed S1 w1 b hsz hbit hfu hf ht
   have hpE:=(tC hp).2
   rw [Nat.sub_zero] at hpE
   obtain ⟨hEl,hcase⟩:=hE p E hpE
   have hall:∀ j,j < l.length→rQ E j=true:=by
    intro j hj
    rw [← hbit j hj]
    have hc:listed.toList.countP (fun x=>x)=listed.toList.length:=by
     have:=List.countP_le_length (p:=fun x=>x) (l:=listed.toList)
     simp only [Array.length_toList] at *
     omega
    have:=List.countP_eq_length.1 hc
    have hjs:j < listed.size:=by omega
    simp [hjs]
    exact this _ (by simp)
   have hr:jX l E = []:=by
    rcases hcase with ⟨hr,_⟩|⟨_,j,hj,hjf⟩
    ·exact hr
    ·rw [hall j hj] at hjf;cases hjf
   refine ⟨?_,fin p E g hp hg hr S1 w1 b hf ht⟩
   rw [List.eq_nil_iff_forall_not_mem]
   intro i hi
   have:=(hready E listed hsz hbit hEl i).1 hi
   rw [hr] at this
   cases this
  |succ fuel ih=>
   intro p E g hp hg listed S1 w1 b hsz hbit hfu hf ht
   have hpE:=(tC hp).2
   rw [Nat.sub_zero] at hpE
   obtain ⟨hEl,hcase⟩:=hE p E hpE
   -- what follows behind an operation
   have next:∀ i,i ∈ jX l E→∀ (p':Nat) (g':List D),oY L (E.set i true) 0=some p'→(fr::Fs)[p']?=some g'→∀ (S':Sig) (w':World) (a':Act),Trans S1 w1 S' w'→FR S' w' a' g'→wpAny P .any l.toArray (NoPanic Q) fuel (listed.setIfInBounds i true) a' w':=fun i hi' p' g' hp' hg' S' w' a' t f=>by
    have hil:i < l.length:=List.mem_range.1 (List.mem_filter.1 hi').1
    have his:i < listed.size:=by omega
    have hnb:rQ E i=false:=by
     have:=(List.mem_filter.1 hi').2
     simp only [Bool.and_eq_true,Bool.not_eq_true'] at this
     exact this.1
    refine ih p' (E.set i true) g' hp' hg' _ S' w' a' (by simpa using hsz) (fun j hj => ?_) ?_ f (ht.trans t)
    ·by_cases hji:j=i
     ·subst hji
      have:j < E.length:=by omega
      simp [rQ,his,List.getD_eq_getElem?_getD,this]
     ·rw [getD_set_ne false (Ne.symm hji),hbit j hj]
      simp only [rQ,List.getD_eq_getElem?_getD,List.getElem?_set_ne (Ne.symm hji)]
    ·have hc:(listed.setIfInBounds i true).toList.countP (fun x=>x)=listed.toList.countP (fun x=>x)+1:=by
      have hi2:i < listed.toList.length:=by simpa using his
      simp only [Array.toList_setIfInBounds]
      rw [List.countP_set (h:=hi2)]
      have:listed.toList[i]=false:=by
       have:=(hbit i hil).trans hnb
       simp [his] at this
       simpa using this
      rw [this]
      simp
     rw [hc]
     omega
   have hst:=hsteps p E g hpE hg
   unfold goI at hst
   cases hle:zA8 l (jX l E) with
   |some i=>
    rw [hle] at hst
    obtain ⟨hi',o,ho,hk⟩:=yL hle
    obtain ⟨o',p',g',ho',hp',hg',hstep⟩:=qS hst i (by simp)
    rw [ho] at ho'
    cases ho'
    have hia:l.toArray[i]?=some o:=by simpa using ho
    have hri:=(hready E listed hsz hbit hEl i).2 hi'
    obtain ⟨v,hy,S',t,f⟩:∃ v,Yields P l.toArray o v b∧∃ S',Trans S1 w1 S' w1∧FR S' w1 (b.put o.dst v) g':=by
     unfold zFs at hstep
     split at hstep
     ·rename_i hgd
      have h1:=gJ hT hf hstep (fun a' w'=>∃ S',Trans S1 w1 S' w'∧FR S' w' a' g') (fun _ _ _=>False) fun fr' S' w' a' he t f=>by
       (try dsimp only at he)
       rw [aD] at he
       obtain ⟨rfl⟩:=he
       exact ⟨S',t,kR f⟩
      obtain ⟨v,h2,h3⟩:=zFN hk h1
      exact ⟨v,.inl ⟨by unfold Region.wanted;rw [hgd],h2⟩,h3⟩
     ·rename_i j want hgd
      split at hstep
      ·rename_i c hc
       have hw:=kK hf hgd hc
       rw [aD] at hstep
       obtain ⟨S2,t2,h2⟩:=kO hf o
       obtain ⟨g1,g0⟩:=kV hT h2 hstep
       cases c with
       |true=>
        have h1:=g1 rfl (fun a' w'=>∃ S',Trans S1 w1 S' w'∧FR S' w' a' g') (fun _ _ _=>False) fun fr' S' w' a' he t f=>by
         (try dsimp only at he)
         rw [aD] at he
         obtain ⟨rfl⟩:=he
         exact ⟨S',t2.trans t,kR f⟩
        obtain ⟨v,h3,h4⟩:=zFN hk h1
        exact ⟨v,.inl ⟨hw,h3⟩,h4⟩
       |false=>
        obtain ⟨fr',k,f⟩:=g0 rfl
        (try dsimp only at k)
        rw [aD] at k
        obtain ⟨rfl⟩:=k
        exact ⟨undef,.inr ⟨hw,rfl⟩,S2,t2,kR f⟩
      ·exact hstep.elim
    refine wpAny_first hia (Region.noSelect_spec (nV hpar)) (fun _ _ _ h=>h) fuel listed b w1 (fun j oj hj hji hun hno => ?_) hri hy (next i hi' p' g' hp' hg' S' w1 _ t f)
    have hdep1:nI oj i=true→False:=fun hd=>by
     obtain ⟨e,he,hbd,hej⟩:=cW hd
     exact hno e he hbd hej
    have hdep2:nI o j=true→False:=fun hd=>by
     obtain ⟨e,he,hbd,hej⟩:=cW hd
     obtain ⟨_,o2,ho2,hall2⟩:=mem_ready.1 hri
     rw [hia] at ho2
     cases ho2
     have h1:=hall2 e he hbd
     rw [hej] at h1
     have hjs:j < listed.size:=by have:=(Array.getElem?_eq_some_iff.1 hj).1;simp at this;omega
     simp [hjs] at h1 hun
     rw [h1] at hun
     cases hun
    unfold Oper.apart
    rw [Bool.and_eq_true]
    constructor
    ·cases hd:o.dst with
     |none=>rfl
     |some d=>
      have:=fJ hpar hj hia (Ne.symm hji) hd
      simp only [Bool.and_eq_true,Bool.not_eq_true',bne_iff_ne,ne_eq]
      refine ⟨?_,this.1⟩
      cases hcn:(oj.looksAt l.toArray).contains d with
      |false=>rfl
      |true=>
       exfalso
       rcases this.2 (by simpa using hcn) with h1|h1
       ·exact hdep1 h1
       ·exact hdep2 h1
    ·cases hd:oj.dst with
     |none=>rfl
     |some d=>
      have:=fJ hpar hia hj hji hd
      simp only [Bool.not_eq_true']
      cases hcn:(o.looksAt l.toArray).contains d with
      |false=>rfl
      |true=>
       exfalso
       rcases this.2 (by simpa using hcn) with h1|h1
       ·exact hdep2 h1
       ·exact hdep1 h1
   |none=>
    rw [hle] at hst
    refine ⟨fun hr => ?_,fun i hi => ?_⟩
    ·refine fin p E g hp hg ?_ S1 w1 b hf ht
     rw [List.eq_nil_iff_forall_not_mem]
     intro i hi
     have:=(hready E listed hsz hbit hEl i).2 hi
     rw [hr] at this
     cases this
    ·have hi':=(hready E listed hsz hbit hEl i).1 hi
     obtain ⟨o,p',g',ho,hp',hg',hstep⟩:=qS hst i hi'
     have cont:∀ (fr':List D) (S':Sig) (w':World) (a':Act),(aN (zC0 fr') fun fr'=>EqF fr' g')→Trans S1 w1 S' w'→FR S' w' a' fr'→wpAny P .any l.toArray (NoPanic Q) fuel (listed.setIfInBounds i true) a' w':=fun fr' S' w' a' he t f=>by
      (try dsimp only at he)
      rw [aD] at he
      obtain ⟨rfl⟩:=he
      exact next i hi' p' _ hp' hg' S' w' a' t (kR f)
     unfold wpOp
     simp only [show l.toArray[i]?=some o by simpa using ho]
     unfold zFs at hstep
     split at hstep
     ·rename_i hgd
      rw [if_pos (by unfold Region.wanted;rw [hgd])]
      exact .inl (gJ hT hf hstep _ _ cont)
     ·rename_i j want hgd
      split at hstep
      ·rename_i c hc
       have hw:=kK hf hgd hc
       rw [aD] at hstep
       obtain ⟨S2,t2,h2⟩:=kO hf o
       obtain ⟨g1,g0⟩:=kV hT h2 hstep
       rw [hw]
       cases c with
       |true=>
        rw [if_pos rfl]
        exact .inl (g1 rfl _ _ fun fr' S' w' a' he t f=>cont fr' S' w' a' he (t2.trans t) f)
       |false=>
        rw [if_neg (by simp)]
        obtain ⟨fr',k,f⟩:=g0 rfl
        exact cont fr' S2 w1 _ k t2 f
      ·exact hstep.elim
 have hp0:oY L (l.map fun _=>false) 0=some 0:=by
  split at h0
  ·rename_i E r
   simp only [oY,h0]
  ·cases h0
 refine key l.toArray.size 0 (l.map fun _=>false) fr hp0 rfl _ S w.drew a (by simp) (fun j hj => ?_) (by simp) (hF.drop (PT.ext' hF.wf (Ext.drew w))) (PT.ext' hF.wf (Ext.drew w)).trans
 simp [rQ,List.getD_eq_getElem?_getD,hj]
end
end Go.Proofs.YtnjgoldinaffgaaGreatDoor
namespace Go.Proofs.YtnjgoldinaffgaaGreatDoor
set_option linter.unusedSimpArgs false
set_option linter.unusedVariables false
open Go.RowKit
variable {K:List D→Prop} {S:Sig} {a:Act} {w:World}
def zLY (fr0:List D) (ops:List Oper) (heads:List Nat) (fr:List D):List D:=
 ops.foldl (fun fr o=>match o.op with
  |.move x=>match o.dst with
   |some t=>match !(oG fr0 x) || heads.contains t with
    |true=>fr
    |false=>vY fr x
   |none=>fr
  | _=>fr) fr
def zFB (ops:List Oper) (heads:List Nat) (fr:List D):List D:=zLY fr ops heads fr
def zBZ (M:Nat→Bool) (ops:List Oper):List Nat:=
 ops.filterMap fun o=>match o.op with
  |.call c=>match c.callee with
   |.builtin .append=>match c.args.toList with
    |.tmp h::_=>some h
    |_=>none
   |.value (.func f)=>match M (1000000+f) with
    |true=>match c.args.toList with
     |.tmp h::_=>some h
     |_=>none
    |false=>none
   |_=>none
  |_=>none
def zFt (ops:List Oper) (t:Nat):Nat:=match ops with
 |[]=>t
 |o::r=>match o.dst with
  |some d=>match Nat.beq d t with
   |true=>match o.op with
    |.move (.tmp s)=>s
    |_=>t
   |false=>zFt r t
  |none=>zFt r t
def gS (M:Nat→Bool) (all:List Oper) (fr:List D):List Oper→Nat→Option (Nat × Nat × D)
 |[],_=>none
 |o::r,i=>match o.op with
  |.call c=>match c.callee with
   |.value (.func f)=>match M (1000000+f) with
    |true=>match c.args.toList with
     |.tmp t::_=>match fr[zFt all t]? with
      |some (.sl (m+1) sz rows)=>some (i,zFt all t,.sl (m+1) sz rows)
      |some (.al u)=>match fr[u]? with
       |some (.sl (m+1) sz rows)=>some (i,u,.sl (m+1) sz rows)
       |_=>gS M all fr r (i+1)
      |_=>gS M all fr r (i+1)
     |_=>gS M all fr r (i+1)
    |false=>gS M all fr r (i+1)
   |_=>gS M all fr r (i+1)
  |_=>gS M all fr r (i+1)
theorem fD {M:Nat→Bool} {all:List Oper} {fr:List D} {k cs:Nat} {d:D}:∀ {r:List Oper} {i:Nat},gS M all fr r i=some (k,cs,d)→fr[cs]?=some d∧∃ m sz rows,d=.sl (m+1) sz rows
 |[],i,h=>by cases h
 |o::r,i,h=>by
  unfold gS at h
  split at h
  ·split at h
   ·split at h
    ·split at h
     ·split at h
      ·cases h;exact ⟨by assumption,_,_,_,rfl⟩
      ·split at h
       ·cases h;exact ⟨by assumption,_,_,_,rfl⟩
       ·exact fD h
      ·exact fD h
     ·exact fD h
    ·exact fD h
   ·exact fD h
  ·exact fD h
def inB (ops:List Oper) (n:Nat):Bool:=ops.all fun o=>match o.dst with
 |some d=>decide (d < n)
 |none=>true
structure DrawR (ops:List Oper) (ok:Nat→Bool) (F:Nat→Prop):Prop where
 h:∃ m,ok m=true∧F m
theorem DrawR.go {ops:List Oper} {ok:Nat→Bool} {F:Nat→Prop} (m:Nat) (h1:ok m=true) (h2:F m):DrawR ops ok F:=⟨m,h1,h2⟩
def zDO:List Oper→Nat→Nat
 |[],n=>n
 |o::r,n=>match o.op with
  |.call c=>match c.callee with
   |.builtin .append | .builtin .copy | .builtin .delete=>n
   |_=>zDO r (n+1)
  |.store _ _ _ | .mapUpdate _ _ _ _=>n
  |.alloc _=>match o.after.toList with
   |[]=>match n with
    |0=>0
    |n+1=>zDO r (n+2)
   |_=>n
  |_=>zDO r (n+1)
structure Halt' (p:Prop):Prop where
 h:p
structure KerB (b:Bool) (F:Prop):Prop where
 h1:b=true
 h2:F
def zIM (fr:List D):List Nat→Option Nat
 |[]=>none
 |t::r=>match fr[t]? with
  |some (.nagg _ _ _ _ _)=>some t
  |_=>zIM fr r
def zBX (fr:List D) (t:Nat) (z:List D):Bool:=match fr[t]? with
 |some (.obj (.bool _::_))=>match z with
  |.int _ _::_=>true
  |_=>false
 |_=>false
def zF5 (cs:List D) (off:Nat):Bool:=(cs.set off (.bool true)).all D.flat1
def zKK (fr0 fr:List D) (wr:List Nat) (K1 K:List D→Prop):Prop:=
 match oC fr0 fr wr with
 |none=>match fr.any D.isNew with
  |true=>False
  |false=>K1 fr
 |some (t+1)=>match zIM fr wr with
  |none=>aN (jA (t+1) wr fr0 0 fr) K
  |some t2=>match fr[t2]? with
   |some (.nagg cs off sz n z)=>match zBX fr (t+1) z && (zF5 cs off && (Nat.blt off cs.length && !(Nat.beq t2 (t+1) || mV fr0 t2))) with
    |true=>aN ((jA (t+1) wr fr0 0 fr).set t2 (.agg (cs.set off (.sl 2 sz (List.replicate n z))))) K
    |false=>False
   |_=>False
 |some 0=>False
def zKr:Nat→List D→List Nat
 |_,[] => []
 |i,.el _ _ _ _ _::r=>i::zKr (i+1) r
 |i,_::r=>zKr (i+1) r
def zI2 (frN:List D) (ops:List Oper) (fr:List D) (i:Nat):List D:=match frN[i]? with
 |some (.el u off sz k j)=>match fr[i]? with
  |some .any=>match ops.all fun o=>o.dst != some i with
   |true=>fr.set i (.el u off sz k j)
   |false=>fr
  |_=>fr
 |_=>fr
def zPx (frN:List D) (ops:List Oper) (fr:List D):List D:=(zKr 0 frN).foldl (zI2 frN ops) fr
def zI1 (frN:List D) (ops:List Oper) (fr:List D) (K:List D→Prop):Prop:=match frN.any D.nm3 with
 |true=>aN (zPx frN ops fr) K
 |false=>K fr
def zFI (M:Nat→Bool):List (Nat × Nat)→List D→List D
 |[],fr=>fr
 | (x,n)::r,fr=>zFI M r (match M x with
  |true=>rM 0 n fr
  | false=>fr)
def zLs (M:Nat→Bool) (fr:List D):List D:=match fr with
 |.obj cs::r=>zFI M [(10000000,0),(10000001,1),(10000002,2),(10000003,3),(10000004,4),(10000005,5),(10000006,6),(10000007,7),(10000008,8),(10000009,9)] (.obj cs::r)
 |fr=>fr
def zCg (P:Program) (T:Nat→Option TI) (Z:Nat→Option (List Value)) (M:Nat→Bool) (ops:List Oper) (draw:Bool) (fr:List D) (K:List D→Prop):Prop:=
 match draw with
 |false=>kL P T Z M ops ops fr K
 |true=>DrawR ops (fun m=>jO ops.toArray && (tR ops.toArray m && (Nat.ble m ops.length && inB ops fr.length))) fun m=>
   aN (zLs M fr) fun frL=>aN (zFB ops (zBZ M ops) frL) fun frN=>aN (dropN frN) fun fr0=>match gS M ops fr0 (ops.take m) 0 with
    |none=>vcQ P T Z ops ops.length fr0.length .any fr0 0 (ops.take m) fr0 fun fr'=>zKK fr0 fr' (nL (ops.take m)) (fun fr'=>zI1 frN (ops.take m) fr' fun fr'=>kL P T Z M ops (ops.drop m) fr' K) fun fr'=>kL P T Z M ops (ops.drop m) fr' K
    | some (k,cs,d)=>KerB (zBV ops.toArray k) (aN (fr0.set cs .any) fun frX=>vcQ P T Z ops k cs d frX 0 (ops.take m) frX fun fr'=>match oC frX fr' (nL (ops.take m)) with
     |none=>match fr'.any D.isNew with
      |true=>False
      |false=>aN (fr'.map (bI cs .any)) fun fr'=>kL P T Z M ops (ops.drop m) fr' K
     | some _=>False)
structure HT (P:Program) (c:Code) (fr:List D) (Q:Exit→List D→Prop):Prop where
 h:∀ (S:Sig) (w:World) (a:Act),FR S w a fr→∀ Q':Exit→Act→World→Prop,(∀ e fr' S' w' a',Q e fr'→Trans S w S' w'→FR S' w' a' fr'→Q' e a' w')→c.wp P Q' a w
def vc (P:Program) (T:Nat→Option TI) (Z:Nat→Option (List Value)) (M:Nat→Bool):Code→List D→(Exit→List D→Prop)→Prop
 |.skip,fr,Q=>Q .normal fr
 |.region id ops draw,fr,Q=>match draw && M (5000000+id) with
  |true=>vcI P T Z M ops.toList fr fun fr'=>Q .normal fr'
  |false=>zCg P T Z M ops.toList draw fr fun fr'=>Q .normal fr'
 |.seq x y,fr,Q=>vc P T Z M x fr fun e fr'=>match e with
  |.normal=>vc P T Z M y fr' Q
  |e=>Q e fr'
 |.cond c x y,fr,Q=>match bD fr c with
  |.bool b=>CondD b (vc P T Z M x fr Q) (vc P T Z M y fr Q)
  |_=>False
 |.block id c,fr,Q=>vc P T Z M c fr fun e fr'=>match e with
  |.exit n=>match Nat.beq n id with
   |true=>Q .normal fr'
   |false=>Q (.exit n) fr'
  |e=>Q e fr'
 |.loop c,fr,Q=>Halt' (HT P (.loop c) fr Q)
 |.exit id,fr,Q=>Q (.exit id) fr
 |.ret,fr,Q=>Q .ret fr
 |_,_,_=>False
section
variable {P:Program} {T:Nat→Option TI} {Z:Nat→Option (List Value)} {M:Nat→Bool}
theorem zCH (heads:List Nat) (ops:List Oper) {fr:List D} (h:FR S w a fr):∃ S',Trans S w S' w∧FR S' w a (zFB ops heads fr):=by
 unfold zFB zLY
 refine eK (fun S fr o h => ?_) ops S fr h
 split
 ·split
  ·split
   ·exact ⟨S,Trans.refl S w,h⟩
   ·exact gP h _
  ·exact ⟨S,Trans.refl S w,h⟩
 ·exact ⟨S,Trans.refl S w,h⟩
theorem zAW {l:Array Oper} (hok:jO l=true) {c:Nat} (hc:l.size≤c):∀ (f i:Nat),jY l f i c=false
 |0,_=>rfl
 |f+1,i=>by
  unfold jY
  cases ho:l[i]? with
  |none=>rfl
  |some o=>
   simp only
   rw [Array.any_eq_false']
   intro e he
   simp only [Bool.and_eq_true,Bool.or_eq_true,beq_iff_eq,not_and]
   intro hb h
   have hlt:=bY hok ho he hb
   have hi:=(Array.getElem?_eq_some_iff.1 ho).1
   rcases h with h|h
   ·omega
   ·rw [zAW hok hc f e.on] at h
    cases h
theorem zDk {l:Array Oper} (hok:jO l=true):zBV l l.size=true:=by
 refine List.all_eq_true.2 fun i hi => ?_
 cases ho:l[i]? with
 |none=>rfl
 |some o=>
  refine Array.all_eq_true'.2 fun e he => ?_
  cases hb:Region.binds .any e with
  |false=>rfl
  |true=>
   have hlt:=bY hok ho he hb
   have hi:=(Array.getElem?_eq_some_iff.1 ho).1
   have:eY l l.size e.on=false:=by
    unfold eY
    rw [zAW hok (Nat.le_refl _)]
    simp
    omega
   rw [this]
   rfl
theorem zIL {cs n0c:Nat} {a0:Act} {frF fr0 fr:List D} {pre l:List Oper} {fs:List (World→Prop)} {w0:World} (h:QInv S l.toArray n0c cs w0.heap.size a0 fr0 pre fs a fr) (hC:QC S l n0c cs a0 frF fr0 w0) (hcs:frF[cs]?=none) (hR:Rw S cs w0 w) (hf:∀ f ∈ fs,f w) {t t2 off sz n:Nat} {cs2 z:List D} (ht:oC fr0 fr (nL pre)=some (t+1)) (hd2:fr[t2]?=some (.nagg cs2 off sz n z))
  (hb:(zBX fr (t+1) z && (zF5 cs2 off && (Nat.blt off cs2.length && !(Nat.beq t2 (t+1) || mV fr0 t2))))=true) (hk:K ((jA (t+1) (nL pre) fr0 0 fr).set t2 (.agg (cs2.set off (.sl 2 sz (List.replicate n z)))))):
  ∃ fr'' S2,Trans S w0 S2 w∧FR S2 w a fr''∧K fr'':=by
 simp only [Bool.and_eq_true,Bool.not_eq_true',Bool.or_eq_false_iff] at hb
 obtain ⟨hkd,hfl,hlt,hne,hno⟩:=hb
 have hlt:off < cs2.length:=Nat.le_of_succ_le_succ (Nat.succ_le_succ (Nat.le_of_ble_eq_true hlt))
 have hne:t2 ≠ t+1:=fun e=>by subst e;simp at hne
 rcases h.slot' t2 _ hd2 with ⟨_,h2⟩|⟨⟨k,p,v,k1,k2,k3,k4,k5⟩,_⟩
 ·exfalso
  by_cases htc:t2=cs
  ·subst htc
   cases hC.at_cs h2
  ·rw [hC.other htc] at h2
   obtain ⟨v,hv,hs⟩:=hC.hF.at h2
   cases hs.1 with
   |fz h=>cases h
 ·have hA:NewA (sg S l.toArray n0c cs k) w0.heap.size cs2 off sz n z v w:=(hf _ (aK k4)).2
  obtain ⟨us,u,rfl,hul,h1,huo,⟨b2,cap,cur,e,rfl,hb0,_,hbh,hn1,hnc,hcm,hcs2,hzl,hcells⟩,hrest⟩:=hA
  obtain ⟨S2,tr,f2,ho2⟩:=h.frN (some (b2,⟨t2+2,[off]⟩)) hC hcs hR hf ht (by omega) (fun b3 q3 e3=>by
   cases e3
   refine ⟨hb0,cur,e,hbh,fun zc hx he => ?_⟩
   unfold zBX at hkd
   rw [hx] at hkd
   cases zc with
   |nil=>simp [cX] at hkd
   |cons z0 zr=>
    cases z with
    |nil=>simp at hkd;split at hkd<;>simp at hkd
    |cons d dr=>
     obtain ⟨u0,q1,_,q3,q4⟩:=hcells 0 0 d (by omega) rfl
     rw [he] at q1
     simp at q1
     subst q1
     simp only [cX,List.map_cons] at hkd
     cases d with
     |int kk m=>cases q4;simp [nH] at hkd
     | _=>split at hkd<;>first|(cases hkd;done)|simp at hkd)
  have hown:=ho2 b2 _ rfl
  have hin:yH t2 (nL pre)=true:=yG.2 (List.mem_filterMap.2 ⟨p,aK k1,k2⟩)
  have hat:(jA (t+1) (nL pre) fr0 0 fr)[t2]?=some .any:=by
   rw [yQ,Nat.zero_add,hd2,hin,hno]
   have:Nat.beq t2 (t+1)=false:=by
    cases hbq:Nat.beq t2 (t+1) with
    |false=>rfl
    |true=>exact absurd (Nat.eq_of_beq_eq_true hbq) hne
   rw [this]
   rfl
  have hrep:Rep S2 w (.slot t2) (.agg us.toArray) (.agg (cs2.set off (.sl 2 sz (List.replicate n z)))):=by
   refine .agg us (by rw [List.length_set];exact hul) h1 fun j d x hd hx => ?_
   by_cases hj:j=off
   ·subst hj
    rw [List.getElem?_set_self hlt] at hd
    cases hd
    rw [huo] at hx
    cases hx
    have hO:OwnAt S2 w ⟨t2+2,[j]⟩ b2 cap 2 sz (List.replicate n z) cur e:=by
     refine ⟨.inr rfl,hbh,by rw [List.length_replicate];exact hnc,hcm,hcs2,fun r hr=>by rw [(List.mem_replicate.1 hr).2];exact hzl,by rw [if_pos rfl];exact hown,fun k' r j' d' hk' hd' => ?_⟩
     have hkn:k' < n:=by have:=(List.getElem?_eq_some_iff.1 hk').1;simpa using this
     rw [List.getElem?_replicate,if_pos hkn] at hk'
     cases hk'
     obtain ⟨u',q1,q2,q3,q4⟩:=hcells k' j' d' hkn hd'
     exact ⟨u',q1,q2,mG q3 q4⟩
    have:=Rep.own hO
    rw [List.length_replicate] at this
    exact this
   ·rw [List.getElem?_set_ne (Ne.symm hj)] at hd
    have hfd:d.flat1=true:=List.all_eq_true.1 hfl d (aK (by rw [List.getElem?_set_ne (Ne.symm hj)];exact hd))
    exact .fz (mG hfd (hrest j d x hj hd hx).2)
  refine ⟨_,S2,tr,f2.setD hat rfl k3 hrep (fun x hx => ?_),hk⟩
  cases hx with
  |agg hd hm=>
   rename_i j d
   by_cases hj:j=off
   ·subst hj
    rw [List.getElem?_set_self hlt] at hd
    cases hd
    exact (bG hm).elim
   ·rw [List.getElem?_set_ne (Ne.symm hj)] at hd
    have hfd:d.flat1=true:=List.all_eq_true.1 hfl d (aK (by rw [List.getElem?_set_ne (Ne.symm hj)];exact hd))
    cases d with
    |int kk m=>cases hm
    |bool bb=>cases hm
    |str ss=>cases hm
    |_=>cases hfd
theorem zDv {fr:List D} (h:fr.any D.isNew=false) (i:Nat) (d:D) (hd:fr[i]?=some d):d.isNew=false:=by
 have:=List.any_eq_false.1 h d (aK hd)
 simpa using this
theorem zB5 {fr:List D} (h:FR S w a fr) (u off:Nat):∃ S',Trans S w S' w∧FR S' w a (rM u off fr):=by
 unfold rM
 split
 ·rename_i hd
  split
  ·rename_i hc;exact h.downC hd hc
  ·exact ⟨S,Trans.refl S w,h⟩
 ·exact ⟨S,Trans.refl S w,h⟩
theorem oH {w:World} {a:Act} (M:Nat→Bool):∀ (L:List (Nat × Nat)) {S:Sig} {fr:List D},FR S w a fr→∃ S',Trans S w S' w∧FR S' w a (zFI M L fr)
 |[],S,_,h=>⟨S,Trans.refl S w,h⟩
 |(x,n)::L,S,fr,h=>by
  unfold zFI
  split
  ·obtain ⟨S1,t1,h1⟩:=zB5 h 0 n
   obtain ⟨S2,t2,h2⟩:=oH M L h1
   exact ⟨S2,t1.trans t2,h2⟩
  ·exact oH M L h
theorem zET {fr:List D} (M:Nat→Bool) (h:FR S w a fr):∃ S',Trans S w S' w∧FR S' w a (zLs M fr):=by
 unfold zLs
 split
 ·exact oH M _ h
 ·exact ⟨S,Trans.refl S w,h⟩
theorem SlotRep.setAny {fr:List D} {i j:Nat} {d e:D} {v:Value} (h0:fr[i]?=some .any) (h:SlotRep S w a fr j v e):SlotRep S w a (fr.set i d) j v e:=by
 have ne:∀ (u:Nat) (d':D),fr[u]?=some d'→d'.owns=true→(fr.set i d)[u]?=some d':=fun u d' hu ho=>by
  have:i ≠ u:=fun e=>by subst e;rw [h0] at hu;cases hu;cases ho
  rw [List.getElem?_set_ne this];exact hu
 have hob:∀ u,ObjAt S fr u→ObjAt S (fr.set i d) u:=fun u h=>by
  obtain ⟨⟨cs,hc⟩,ho⟩:=h
  exact ⟨⟨cs,ne u _ hc rfl⟩,ho⟩
 have hrk:∀ e,bM fr e→bM (fr.set i d) e:=fun e he x hx=>by
  obtain ⟨cs,hc⟩:=he x hx
  exact ⟨cs,ne x _ hc rfl⟩
 cases e with
 |al x=>
  obtain ⟨h1,d',h2,h3,h4⟩:=h
  exact ⟨h1,d',ne x _ h2 h3,h3,h4⟩
 |alc x o=>exact ⟨hob _ h.1,h.2⟩
 |el x o sz k j=>exact ⟨hob _ h.1,h.2⟩
 |es x sz k j=>
  obtain ⟨⟨d',h2,h3,h4⟩,h5⟩:=h
  exact ⟨⟨d',ne x _ h2 h3,h3,h4⟩,h5⟩
 |_=>exact ⟨h.1,hrk _ h.2⟩
theorem kE {S:Sig} {cs:Nat} {w w':World} {a a':Act} {frN:List D} (ops:List Oper) (hFN:FR S w a frN) (hx:Rw S cs w w') (hcs:frN.length≤cs):∀ (L:List Nat) {fr:List D},FR (S.drop cs) w' a' fr→(∀ (u:Nat) (c:List D),frN[u]?=some (D.obj c)→∃ c',fr[u]?=some (D.obj c'))→(∀ i:Nat,(ops.all fun o=>o.dst != some i)=true→fr[i]?=some D.any→a'.tmps[i]?=a.tmps[i]?)→FR (S.drop cs) w' a' (L.foldl (zI2 frN ops) fr)
 |[],_,h,_,_=>h
 |i::L,fr,h,hob,htm=>by
  rw [List.foldl_cons]
  unfold zI2
  split
  ·rename_i u off sz k j hN
   split
   ·rename_i hany
    split
    ·rename_i hall
     have ht:=htm i hall hany
     obtain ⟨v,hv⟩:∃ v,a.tmps[i]?=some v:=by
      have hlt:i < frN.length:=(bC hN)
      exact ⟨_,Array.getElem?_eq_getElem (by rw [hFN.size];exact hlt)⟩
     obtain ⟨⟨⟨c,hc⟩,how⟩,s,hs,hel⟩:=hFN.slot i _ v hN hv
     obtain ⟨c',hc'⟩:=hob u c hc
     have hul:u < frN.length:=(bC hc)
     have hmine:gR cs (S.own (S.loc (u+2)))=false:=by
      rw [how]
      have:u ≠ cs:=by omega
      simp [gR,Place.slot,this]
     have hbl:=hx.same _ (tH hs) hmine
     have hne:i ≠ u:=fun e=>by subst e;rw [hany] at hc';cases hc'
     have hnew:SlotRep (S.drop cs) w' a' (fr.set i (.el u off sz k j)) i v (.el u off sz k j):=by
      refine ⟨⟨⟨c',by rw [List.getElem?_set_ne hne];exact hc'⟩,?_⟩,s,?_,hel⟩
      ·show (S.drop cs).own (S.loc (u+2))=_
       rw [pA hmine]
       exact how
      ·show w'.cell? ⟨S.loc (u+2),off,none⟩=some s
       unfold World.cell? at hs ⊢
       rw [hbl]
       exact hs
     refine kE ops hFN hx hcs L ⟨h.wf,by rw [List.length_set];exact h.size,h.defers,fun x d y hd hy => ?_⟩ (fun x c hxc => ?_) fun x hxa hxd => ?_
     ·by_cases hxi:x=i
      ·subst hxi
       have hlt:x < fr.length:=(bC hany)
       rw [List.getElem?_set_self hlt] at hd
       cases hd
       rw [ht,hv] at hy
       cases hy
       exact hnew
      ·rw [List.getElem?_set_ne (Ne.symm hxi)] at hd
       exact (h.slot x d y hd hy).setAny hany
     ·obtain ⟨c2,h2⟩:=hob x c hxc
      have:i ≠ x:=fun e=>by subst e;rw [hany] at h2;cases h2
      exact ⟨c2,by rw [List.getElem?_set_ne this];exact h2⟩
     ·by_cases hxi:x=i
      ·subst hxi
       have hlt:x < fr.length:=(bC hany)
       rw [List.getElem?_set_self hlt] at hxd
       cases hxd
      ·rw [List.getElem?_set_ne (Ne.symm hxi)] at hxd
       exact htm x hxa hxd
    ·exact kE ops hFN hx hcs L h hob htm
   ·exact kE ops hFN hx hcs L h hob htm
  ·exact kE ops hFN hx hcs L h hob htm
theorem zDq {cs:Nat} {w':World} {a':Act} {frN fr:List D} {ops:List Oper} (hFN:FR S w a frN) (hx:Rw S cs w w') (hcs:frN.length≤cs) (h:FR (S.drop cs) w' a' fr) (hob:∀ (u:Nat) (c:List D),frN[u]?=some (D.obj c)→∃ c',fr[u]?=some (D.obj c')) (htm:∀ i:Nat,(ops.all fun o=>o.dst != some i)=true→fr[i]?=some D.any→a'.tmps[i]?=a.tmps[i]?) (hk:zI1 frN ops fr K):∃ fr',FR (S.drop cs) w' a' fr'∧K fr':=by
 unfold zI1 at hk
 split at hk
 ·rw [aD] at hk
  exact ⟨_,kE ops hFN hx hcs _ h hob htm,hk⟩
 ·exact ⟨_,h,hk⟩
theorem xD (hT:TOk P T Z) (hm:P.follows .mixedOrders=true) {id:Nat} {l:List Oper} {draw:Bool} {fr:List D} (h:zCg P T Z M l draw fr K) (hF:FR S w a fr) {Q:Exit→Act→World→Prop}
  (hK:∀ fr' S' w' a',K fr'→Trans S w S' w'→FR S' w' a' fr'→Q .normal a' w'):(Code.region id l.toArray draw).wp P Q a w:=by
 cases draw with
 |false=>exact wp_region_lit (dP hT l hF h hK)
 |true=>
  obtain ⟨m,hb,hv⟩:=h.h
  rw [aD,aD,aD] at hv
  simp only [Bool.and_eq_true] at hb
  obtain ⟨hpar,htail,hml,hin⟩:=hb
  obtain ⟨S0,t0,hF0⟩:=zET M hF
  obtain ⟨S1,t1,hF1⟩:=zCH (zBZ M l) l hF0
  replace t1:=t0.trans t1
  generalize zFB l (zBZ M l) (zLs M fr)=frN at hv hF1
  have hFN:=hF1
  replace hF1:=hF1.dropN
  have hnm:∀ (i:Nat) (d:D),(dropN frN)[i]?=some d→d.nm3=false:=fun i d hd=>zKu hd
  have hlenN:frN.length=(dropN frN).length:=(zHr frN).symm
  have hobN:∀ u c,frN[u]?=some (D.obj c)→(dropN frN)[u]?=some (D.obj c):=fun u c h=>by rw [tF,List.getElem?_map,h];rfl
  generalize hfr1:dropN frN=fr1 at hv hF1 hnm hlenN hobN
  have hin':(l.all fun o=>match o.dst with|some d=>decide (d < a.tmps.size)|none=>true)=true:=by
   have:a.tmps.size=fr.length:=hF.size
   rw [this]
   exact hin
  have hpre:∀ (k:Nat) (p:Oper),([]++l.take m)[k]?=some p→l[k]?=some p:=fun k p hk=>by
   rw [List.nil_append,List.getElem?_take] at hk
   split at hk
   ·exact hk
   ·cases hk
  have go:∀ {ci cs:Nat} {d0:D} {fr0:List D} {K0:List D→Prop},QC S1 l ci cs a fr1 fr0 w→(∀ m sz rows,d0=.sl (m+1) sz rows→fr1[cs]?=some d0)→vcQ P T Z l ci cs d0 fr0 0 (l.take m) fr0 K0→
    (∀ fr' fs a' w',K0 fr'→Rw S1 cs w w'→QInv S1 l.toArray ci cs w.heap.size a fr0 (l.take m) fs a' fr'→(∀ f ∈ fs,f w')→∃ fr'' S2,Trans S1 w S2 w'∧FR S2 w' a' fr''∧kL P T Z M l (l.drop m) fr'' K)→(Code.region id l.toArray true).wp P Q a w:=by
   intro ci cs d0 fr0 K0 hC hd0 hq hend
   obtain ⟨ss,hss⟩:=zAw (Q:=zCo P l m Q) hT hC hd0 (Nat.le_refl _) (L:=l.take m) (fun fr' fs a' w' hk hx hI hf=>by
    obtain ⟨fr'',S2,t2,hF',hk'⟩:=hend fr' fs a' w' hk hx hI hf
    show wpList P l.toArray (NoPanic Q) (l.drop m) a' w'
    exact dP hT _ hF' hk' fun fr'' S'' w'' a'' k t f=>NoPanic.normal (hK fr'' S'' w'' a'' k (t1.trans (t2.trans t)) f)) (l.take m) [] fr0 (by simp) hpre hq
   refine nO m (zAg S1 l.toArray ci cs) hm hpar htail (Nat.le_of_ble_eq_true hml) (fun i hi hic => ?_) hin' (ss:=ss) (hss [] a ⟨?_,rfl,hF1.defers,rfl,fun t d hd=>.inl ⟨rfl,hd⟩,fun u d hd _=>⟨hd,rfl⟩,rfl⟩)
   ·have hi':eY l.toArray ci i=true:=hi
    have hic':i ≠ ci:=hic
    unfold eY at hi'
    simp only [hic',decide_false,Bool.false_or] at hi'
    exact hi'
   ·rw [hC.hX,List.length_set]
    exact hF1.size
  split at hv
  ·refine go (ci:=l.length) (cs:=fr1.length) ⟨hF1,by rw [List.set_eq_of_length_le (Nat.le_refl _)],(fun x h=>by simp at h),hpar,?_,hnm⟩ (fun m sz rows e=>by cases e) hv fun fr' fs a' w' hk hx hI hf => ?_
   rotate_left
   ·have hC:QC S1 l l.length fr1.length a fr1 fr1 w:=⟨hF1,by rw [List.set_eq_of_length_le (Nat.le_refl _)],(fun x h=>by simp at h),hpar,by have:=zDk hpar;simpa using this,hnm⟩
    unfold zKK at hk
    split at hk
    ·rename_i hn
     split at hk
     ·exact hk.elim
     ·rename_i hne
      have hFr:=(hI.fr hC hx hf (hI.nob hn) (zDv hne)).2 (by simp)
      obtain ⟨fr'',q1,q2⟩:=zDq hFN hx (by omega) hFr (fun u c hu=>⟨c,(hI.own u _ (hobN u c hu) rfl).1⟩) (fun i hall hany=>by
       rcases hI.slot i _ hany with ⟨h1,_⟩|⟨k,o,v,k1,k2,_⟩
       ·exact h1
       ·have:=List.all_eq_true.1 hall o (aK k1)
        simp [k2] at this) hk
      exact ⟨fr'',_,hx.to (.inr rfl),q1,q2⟩
    ·rename_i t hn
     split at hk
     rotate_left
     ·rename_i t2 _
      split at hk
      ·rename_i cs2 off sz n z hd2
       split at hk
       ·rename_i hb2
        rw [aD] at hk
        exact zIL hI hC (by simp) hx hf hn hd2 hb2 hk
       ·exact hk.elim
      ·exact hk.elim
     rw [aD] at hk
     obtain ⟨S2,t2,f2,_⟩:=hI.frN none hC (by simp) hx hf hn (by omega) (fun _ _ e=>by cases e)
     exact ⟨_,S2,t2,f2,hk⟩
    ·exact hk.elim
   have:=zDk hpar
   simpa using this
  ·rename_i k cs d hwr
   obtain ⟨hlate,hv⟩:=hv
   simp only [aD] at hv
   obtain ⟨hcs,m',sz,rows,rfl⟩:=fD hwr
   have hC:QC S1 l k cs a fr1 (fr1.set cs .any) w:=⟨hF1,rfl,(fun x h=>by rw [hcs] at h;cases h),hpar,hlate,hnm⟩
   refine go hC (fun _ _ _ _=>hcs) hv fun fr' fs a' w' hk hx hI hf => ?_
   split at hk
   ·rename_i hn
    split at hk
    ·exact hk.elim
    ·rename_i hne
     exact ⟨_,_,hx.to (.inr rfl),(hI.fr hC hx hf (hI.nob hn) (zDv hne)).1,hk⟩
   ·exact hk.elim
theorem xC (hT:TOk P T Z) (hm:P.follows .mixedOrders=true):∀ (c:Code) {fr:List D} {Q:Exit→List D→Prop},vc P T Z M c fr Q→HT P c fr Q:=by
 intro c
 induction c with
 |skip=>exact fun h=>⟨fun S w a hF Q' hQ=>wp_skip (hQ _ _ S w a h (Trans.refl S w) hF)⟩
 |region id ops draw=>
  intro fr Q h
  refine ⟨fun S w a hF Q' hQ => ?_⟩
  simp only [vc] at h
  split at h
  ·rename_i hb
   simp only [Bool.and_eq_true] at hb
   rw [hb.1]
   have:=zGr (id:=id) hT hm h hF (Q:=Q') fun fr' S' w' a' k t f=>hQ _ _ S' w' a' k t f
   simpa using this
  have:=xD (id:=id) hT hm h hF (Q:=Q') fun fr' S' w' a' k t f=>hQ _ _ S' w' a' k t f
  simpa using this
 |seq x y ihx ihy=>
  intro fr Q h
  refine ⟨fun S w a hF Q' hQ=>wp_seq ((ihx h).h S w a hF _ fun e fr' S' w' a' k t f => ?_)⟩
  cases e with
  |normal=>exact (ihy k).h S' w' a' f Q' fun e'' fr'' S'' w'' a'' k2 t2 f2=>hQ e'' fr'' S'' w'' a'' k2 (t.trans t2) f2
  |_=>exact hQ _ _ S' w' a' k t f
 |cond c x y ihx ihy=>
  intro fr Q h
  refine ⟨fun S w a hF Q' hQ => ?_⟩
  simp only [vc] at h
  split at h
  ·rename_i b hb
   obtain ⟨q,hq⟩:=hF.eval c
   rw [hb] at hq
   exact wp_cond_split hq.bool_inv (fun e=>(ihx (h.1 e)).h S w a hF Q' hQ) (fun e=>(ihy (h.2 e)).h S w a hF Q' hQ)
  ·exact h.elim
 |block id c ih=>
  intro fr Q h
  refine ⟨fun S w a hF Q' hQ=>wp_block ((ih h).h S w a hF _ fun e fr' S' w' a' k t f => ?_)⟩
  cases e with
  |exit n=>
   simp only at k
   simp only [Exit.inBlock]
   split at k
   ·rename_i hn
    rw [if_pos (Nat.eq_of_beq_eq_true hn)]
    exact hQ _ _ S' w' a' k t f
   ·rename_i hn
    rw [if_neg (fun e=>by subst e;simp at hn)]
    exact hQ _ _ S' w' a' k t f
  |_=>exact hQ _ _ S' w' a' k t f
 |loop c=>exact fun h=>h.h
 |exit id=>exact fun h=>⟨fun S w a hF Q' hQ=>wp_exit (hQ _ _ S w a h (Trans.refl S w) hF)⟩
 |ret=>exact fun h=>⟨fun S w a hF Q' hQ=>wp_ret (hQ _ _ S w a h (Trans.refl S w) hF)⟩
 |_=>exact fun h=>h.elim
def zNR (fr fr':List D):Bool:=(List.range fr'.length).all fun i=>match fr'[i]? with
 |some (.al u)=>match fr'[u]? with
  |some d=>d.owns && !(Nat.beq u i)
  |none=>false
 |some (.alc u _)=>match fr'[u]? with
  |some d=>d.isObj
  |none=>false
 |some (.el u _ _ _ _)=>match fr'[u]? with
  |some d=>d.isObj
  |none=>false
 |some (.es u _ _ _)=>match fr'[u]? with
  |some d=>d.owns && !(Nat.beq u i)
  |none=>false
 |some d=>match fr[i]? with
  |some (.obj _)=>d.isObj || fr'.all (lV i)
  |_=>true
 |none=>true
structure FLe (fr fr':List D):Prop where
 le:DLes fr fr'
 keep:zNR fr fr'=true
theorem zDu {d:D} (h:d.isObj=true):∃ cs,d=.obj cs:=by cases d<;>first|exact ⟨_,rfl⟩|cases h
theorem FLe.nm {fr fr':List D} (hl:FLe fr fr') {i:Nat} {d:D} (hd:fr'[i]?=some d):(∀ u o,d=.alc u o→∃ cs,fr'[u]?=some (.obj cs))∧(∀ u o sz k j,d=.el u o sz k j→∃ cs,fr'[u]?=some (.obj cs))∧∀ u sz k j,d=.es u sz k j→∃ d':D,fr'[u]?=some d'∧d'.owns=true∧u ≠ i:=by
 have hi:i < fr'.length:=(bC hd)
 have:=List.all_eq_true.1 hl.keep i (List.mem_range.2 hi)
 rw [hd] at this
 refine ⟨fun u o e => ?_,fun u o sz k j e => ?_,fun u sz k j e => ?_⟩
 ·subst e
  simp only at this
  split at this
  ·rename_i d' hd'
   obtain ⟨cs,rfl⟩:=zDu this
   exact ⟨cs,hd'⟩
  ·cases this
 ·subst e
  simp only at this
  split at this
  ·rename_i d' hd'
   obtain ⟨cs,rfl⟩:=zDu this
   exact ⟨cs,hd'⟩
  ·cases this
 ·subst e
  simp only at this
  split at this
  ·rename_i d' hd'
   simp only [Bool.and_eq_true,Bool.not_eq_true'] at this
   exact ⟨d',hd',this.1,fun e=>by subst e;simp at this⟩
  ·cases this
theorem FR.le {fr fr':List D} (h:FR S w a fr) (hl:FLe fr fr'):FR S w a fr':=by
 have hlen:=hl.le.len
 have hk:∀ (i:Nat) (d:D),fr'[i]?=some d→(∀ u,d=.al u→∃ d':D,fr'[u]?=some d'∧d'.owns=true∧u ≠ i)∧∀ cs,fr[i]?=some (D.obj cs)→d.isObj=true∨∀ e ∈ fr',¬ Men i e:=fun i d hd=>by
  have hi:i < fr'.length:=(bC hd)
  have:=List.all_eq_true.1 hl.keep i (List.mem_range.2 hi)
  rw [hd] at this
  refine ⟨fun u e => ?_,fun cs hc => ?_⟩
  ·subst e
   simp only at this
   split at this
   ·rename_i d' hd'
    simp only [Bool.and_eq_true,Bool.not_eq_true'] at this
    exact ⟨d',hd',this.1,fun e=>by subst e;simp at this⟩
   ·cases this
  ·cases d with
   |obj cs=>exact .inl rfl
   |al u=>
    exfalso
    have h1:=hl.le.get (i:=i) hc hd
    cases h1
   |alc u o=>
    exfalso
    have h1:=hl.le.get (i:=i) hc hd
    cases h1
   |el u o sz k j=>
    exfalso
    have h1:=hl.le.get (i:=i) hc hd
    cases h1
   |es u sz k j=>
    exfalso
    have h1:=hl.le.get (i:=i) hc hd
    cases h1
   |_=>
    simp only [hc,Bool.or_eq_true] at this
    rcases this with h|h
    ·exact .inl h
    ·exact .inr fun e he=>zAO (List.all_eq_true.1 h e he)
 have hmen:∀ {d d':D},DLe d d'→∀ {p:Place} {v:Value},Rep S w p v d→∀ t,Men t d'→Men t d:=by
  intro d d' hd
  induction hd with
  |refl d=>exact fun _ t h=>h
  |any d=>exact fun _ t h=>by cases h
  |nil m sz=>exact fun _ t h=>by cases h
  |own sz rows=>exact fun _ t h=>by cases h
  |rows=>exact fun _ t h=>by cases h
  |gd hc _ ih=>
   intro p v hr t hm
   have hf:=hr.gd_inv.1 hc
   exact (hf.men (ih (.fz (p:=p) hf) t hm)).elim
  |@agg ds ds' hl' _ ih=>
   intro p v hr t hm
   obtain ⟨vs,rfl,h1,h2,h3⟩:=hr.agg_inv
   cases hm with
   |@agg j _ d0 hj hm=>
    have hjl:j < ds.length:=by rw [← hl'];exact (bC hj)
    exact .agg (List.getElem?_eq_getElem hjl) (ih j _ _ (List.getElem?_eq_getElem hjl) hj (h3 j _ _ (List.getElem?_eq_getElem hjl) (List.getElem?_eq_getElem (by omega))) t hm)
  |@tup ds ds' hl' _ ih=>
   intro p v hr t hm
   obtain ⟨vs,rfl,h1,h3⟩:=hr.tup_inv
   cases hm with
   |@tup j _ d0 hj hm=>
    have hjl:j < ds.length:=by rw [← hl'];exact (bC hj)
    exact .tup (List.getElem?_eq_getElem hjl) (ih j _ _ (List.getElem?_eq_getElem hjl) hj (h3 j _ _ (List.getElem?_eq_getElem hjl) (List.getElem?_eq_getElem (by omega))) t hm)
 refine ⟨h.wf,h.size.trans hlen.symm,h.defers,fun i d' v hd' hv => ?_⟩
 have hi:i < fr.length:=by rw [← hlen];exact (List.getElem?_eq_some_iff.1 hd').1
 obtain ⟨d,hd⟩:∃ d,fr[i]?=some d:=⟨fr[i],List.getElem?_eq_getElem hi⟩
 have hle:=hl.le.get hd hd'
 have hs:=h.slot i d v hd hv
 obtain ⟨k1,_⟩:=hk i d' hd'
 have rest:d.isNm=false→SlotRep S w a fr' i v d':=fun hn=>by
  obtain ⟨r1,r2⟩:=hs.rep hn
  refine SlotRep.of (Rep.le hle r1) fun t ht => ?_
  obtain ⟨cs,hc⟩:=r2 t (hmen hle r1 t ht)
  have htl:t < fr'.length:=by rw [hlen];exact (bC hc)
  have:=((hk t _ (List.getElem?_eq_getElem htl)).2 cs hc).resolve_right fun hno=>hno d' (aK hd') ht
  rw [List.getElem?_eq_getElem htl]
  generalize fr'[t]=e at this
  cases e<;>first|exact ⟨_,rfl⟩|cases this
 cases d with
 |al u=>
  cases hle with
  |refl=>
   obtain ⟨d'',g1,g2,g3⟩:=k1 u rfl
   exact ⟨hs.1,d'',g1,g2,g3⟩
  |any=>exact SlotRep.of (.fz (.any _)) fun t ht=>by cases ht
 |alc u o=>
  cases hle with
  |refl=>exact ⟨hs.1.mono (w:=w) (w':=w) ((hl.nm hd').1 _ _ rfl) rfl rfl,hs.2⟩
  |any=>exact SlotRep.of (.fz (.any _)) fun t ht=>by cases ht
 |el u o sz k j=>
  cases hle with
  |refl=>exact ⟨hs.1.mono (w:=w) (w':=w) ((hl.nm hd').2.1 _ _ _ _ _ rfl) rfl rfl,hs.2⟩
  |any=>exact SlotRep.of (.fz (.any _)) fun t ht=>by cases ht
 |es u sz k j=>
  cases hle with
  |refl=>exact ⟨(hl.nm hd').2.2 _ _ _ _ rfl,hs.2⟩
  |any=>exact SlotRep.of (.fz (.any _)) fun t ht=>by cases ht
 |_=>exact rest rfl
theorem zKT (hT:TOk P T Z) (hm:P.follows .mixedOrders=true) {c:Code} {fr:List D} {Q:Exit→List D→Prop} {α:Type} (I:α→List D) (pre:α→Prop) (μ:α→Nat) (x0:α) (h0:FLe fr (I x0)) (hp0:pre x0)
  (step:∀ x,pre x→vc P T Z M c (I x) fun e fr'=>match e with
   |.normal=>Halt' (∃ y,pre y∧μ y < μ x∧FLe fr' (I y))
   | e=>Q e fr'):HT P (.loop c) fr Q:=by
 refine ⟨fun S w a hF Q' hQ => ?_⟩
 refine wp_loop_ghost (fun n a' w'=>∃ x S',pre x∧μ x=n∧Trans S w S' w'∧FR S' w' a' (I x)) (μ x0) ⟨x0,S,hp0,rfl,Trans.refl S w,hF.le h0⟩ ?_
 rintro n a1 w1 ⟨x,S1,hx,rfl,t1,f1⟩
 refine (xC hT hm c (step x hx)).h S1 w1 a1 f1 _ fun e fr' S' w' a' k t f => ?_
 cases e with
 |normal=>
  obtain ⟨y,hy,hlt,hle⟩:=k.h
  exact ⟨μ y,hlt,y,S',hy,rfl,t1.trans t,f.le hle⟩
 |_=>exact hQ _ _ S' w' a' k (t1.trans t) f
end
end Go.Proofs.YtnjgoldinaffgaaGreatDoor
namespace Go.Proofs.YtnjgoldinaffgaaGreatDoor
set_option linter.unusedSimpArgs false
set_option linter.unusedVariables false
open Go.RowKit
variable {args:List D}
def dY:ResultVar→Nat
 |.tmp t=>t
 |.cell t _=>t
def zEu (T:Nat→Option TI) (fr:List D):ResultVar→Option D
 |.tmp t=>match fr[t]? with
  |some (.al _)=>none
  |some (.alc _ _)=>none
  |some (.el _ _ _ _ _)=>none
  |some (.es _ _ _ _)=>none
  |d=>d
 |.cell t ty=>match fr[t]? with
  |some (.obj cs)=>match T ty with
   |some (.st n _ _)=>match Nat.beq n cs.length with
    |true=>some (.agg cs)
    |false=>none
   |some _=>match cs with
    |[d]=>match d.one with
     |true=>some d
     |false=>none
    |_=>none
   |none=>none
  |_=>none
inductive RLe (d0 d:D):Prop
 |le (h:DLe d0 d)
 |frz (hc:d0.calm=true) (h:DLe d0.frz d)
def RetL (T:Nat→Option TI) (fr:List D):List ResultVar→List D→Prop
 |[],[]=>True
 | t::ts,d::ds=>(match zEu T fr t with
  |some d0=>RLe d0 d
  | none=>False)∧RetL T fr ts ds
 |_,_=>False
def zBy (T:Nat→Option TI) (rs:List ResultVar) (fr:List D) (d:D):Prop:=
 match rs with
 |[r]=>RetL T fr [r] [d]
 |rs=>match d with
  |.tup ds=>RetL T fr rs ds
  |_=>False
structure Ends (T:Nat→Option TI) (e:Exit) (rs:List ResultVar) (fr:List D) (d:D):Prop where
 e:e=.normal∨e=.ret
 h:zBy T rs fr d
def zGk (fr:List D) (out:Option D):Prop:=
 match out with
 |none=>True
 |some (.obj cs')=>match fr.head? with
  |some (.obj cs)=>DLes cs cs'
  |_=>False
 |_=>False
structure EndsO (T:Nat→Option TI) (e:Exit) (rs:List ResultVar) (fr:List D) (d:D) (out:Option D):Prop where
 n:Ends T e rs fr d
 o:zGk fr out
theorem RetL.get {T:Nat→Option TI} {fr:List D}:∀ {ts:List ResultVar} {ds:List D},RetL T fr ts ds→ts.length=ds.length∧∀ (j:Nat) (t:ResultVar) (d:D),ts[j]?=some t→ds[j]?=some d→∃ d0,zEu T fr t=some d0∧RLe d0 d
 |[],[],_=>⟨rfl,fun j t d h=>by simp at h⟩
 |[],_::_,h=>h.elim
 |_::_,[],h=>h.elim
 |t::ts,d::ds,h=>by
  obtain ⟨h1,h2⟩:=h
  obtain ⟨k1,k2⟩:=RetL.get h2
  refine ⟨by simp [k1],fun j t' d' ht hd => ?_⟩
  cases j with
  |zero=>
   cases ht;cases hd
   split at h1
   ·exact ⟨_,by assumption,h1⟩
   ·exact h1.elim
  |succ j=>exact k2 j t' d' (by simpa using ht) (by simpa using hd)
def Sig.ret (S:Sig) (f:Nat→Option (Option (List Nat))):Sig:=
 ⟨fun b=>match S.own b with
  |none=>none
  |some (q,l)=>match f q.r with
   |none=>some (q,l)
   |some none=>none
   | some (some pre)=>some (⟨1,pre++q.path⟩,l),S.loc⟩
theorem Sig.ret_lim {S:Sig} {f:Nat→Option (Option (List Nat))} {b s:Nat} (h:(S.ret f).lim b=some s):S.lim b=some s:=by
 simp only [Sig.lim,Sig.ret] at h ⊢
 cases ho:S.own b with
 |none=>rw [ho] at h;cases h
 |some x=>
  obtain ⟨q,l⟩:=x
  rw [ho] at h
  simp only at h
  split at h
  ·exact h
  ·cases h
  ·exact h
theorem Fz.ret {S:Sig} {f:Nat→Option (Option (List Nat))} {w:World} {v:Value} {d:D} (h:Fz S.lim w v d):Fz (S.ret f).lim w v d:=h.monoL fun _ _ hs=>Sig.ret_lim hs
theorem Sig.ret_trans {S:Sig} {f:Nat→Option (Option (List Nat))} {w:World} (hw:WF S w) (h0:f 0=none):Trans S w (S.ret f) w∧WF (S.ret f) w:=by
 refine ⟨⟨rfl,rfl,rfl,Nat.le_refl _,fun b _ hn=>⟨rfl,by simp only [Sig.ret,hn]⟩,fun b p l _ hs hd=>⟨rfl,by simp only [Sig.ret,hs,hd,h0]⟩,fun b p l _ hs=>⟨Keeps.refl _ _,fun x hx => ?_⟩,rfl⟩,⟨fun b x hx => ?_,hw.gl.sig fun b hn=>by simp only [Sig.ret,hn]⟩⟩
 ·have:(S.ret f).lim b=some x.2:=by simp only [Sig.lim,hx,Option.map_some]
  have:=Sig.ret_lim this
  simp only [Sig.lim,hs,Option.map_some,Option.some.injEq] at this
  omega
 ·have:(S.ret f).lim b=some x.2:=by simp only [Sig.lim,hx,Option.map_some]
  have:=Sig.ret_lim this
  simp only [Sig.lim] at this
  cases ho:S.own b with
  |none=>rw [ho] at this;cases this
  |some y=>exact hw b y ho
section
variable {S:Sig} {w:World} {f:Nat→Option (Option (List Nat))} {r:Nat}
theorem Rep.ret_keep {pre:List Nat} (hf:f r=some (some pre)) {v:Value} {d:D}:∀ {x:List Nat},d.calm=true→Rep S w ⟨r,x⟩ v d→Rep (S.ret f) w ⟨1,pre++x⟩ v d:=by
 have hown:∀ {x:List Nat} {v:Value} {d:D},d.calm1=true→Rep S w ⟨r,x⟩ v d→Rep (S.ret f) w ⟨1,pre++x⟩ v d:=by
  intro x v d hc hr
  cases hr with
  |fz h=>exact .fz h.ret
  |own g=>
   refine .own ⟨g.mode,g.heap,g.le,g.max,g.size,g.each,by simp only [Sig.ret,g.own,hf],fun k r j d hk hd => ?_⟩
   obtain ⟨u,h1,h2,h3⟩:=g.cells k r j d hk hd
   exact ⟨u,h1,h2,h3.ret⟩
  |@mp _ b clock kd es ents hown hh he hk=>exact .mp (by simp only [Sig.ret,hown,hf]) hh he hk
  |obj=>cases hc
  |ref=>cases hc
  |gref=>cases hc
  |fn=>cases hc
  |agg=>cases hc
  |tup=>cases hc
 have hagg:∀ {x:List Nat} {v:Value} {cs:List D},cs.all D.calm1=true→Rep S w ⟨r,x⟩ v (.agg cs)→Rep (S.ret f) w ⟨1,pre++x⟩ v (.agg cs):=by
  intro x v cs hc hr
  obtain ⟨vs,rfl,h1,h2,h3⟩:=hr.agg_inv
  refine .agg vs h1 h2 fun j d v hd hv => ?_
  have:=hown (List.all_eq_true.1 hc d (aK hd)) (h3 j d v hd hv)
  simpa [Place.at,List.append_assoc] using this
 intro x hc hr
 cases d with
 |agg cs=>exact hagg hc hr
 |tup ds=>
  obtain ⟨vs,rfl,h1,h3⟩:=hr.tup_inv
  refine .tup vs h1 fun j d v hd hv => ?_
  have hc1:=List.all_eq_true.1 hc d (aK hd)
  have h4:=h3 j d v hd hv
  have:Rep (S.ret f) w ⟨1,pre++(x ++ [j])⟩ v d:=by
   cases d with
   |agg cs=>exact hagg hc1 h4
   |_=>exact hown hc1 h4
  simpa [Place.at,List.append_assoc] using this
 |any=>exact .fz (.any v)
 |_=>exact hown hc hr
theorem Rep.ret_none (hf:f r=none) {v:Value} {d:D} (hc:d.left=true) (hr:Rep S w ⟨r,[]⟩ v d):Rep (S.ret f) w ⟨r,[]⟩ v d:=by
 have hown:∀ {x:List Nat} {v:Value} {d:D},d.calm1=true→Rep S w ⟨r,x⟩ v d→Rep (S.ret f) w ⟨r,x⟩ v d:=by
  intro x v d hc hr
  cases hr with
  |fz h=>exact .fz h.ret
  |own g=>
   refine .own ⟨g.mode,g.heap,g.le,g.max,g.size,g.each,by simp only [Sig.ret,g.own,hf],fun k r j d hk hd => ?_⟩
   obtain ⟨u,h1,h2,h3⟩:=g.cells k r j d hk hd
   exact ⟨u,h1,h2,h3.ret⟩
  |@mp _ b clock kd es ents hown hh he hk=>exact .mp (by simp only [Sig.ret,hown,hf]) hh he hk
  |obj=>cases hc
  |ref=>cases hc
  |gref=>cases hc
  |fn=>cases hc
  |agg=>cases hc
  |tup=>cases hc
 cases d with
 |obj cs=>
  cases hr with
  |fz h=>cases h
  |@obj _ b _ _ cur e hb hp hl hh hs h1 ih=>
   exact .obj (b:=b) (by simp only [Sig.ret,hb,hf]) rfl hl hh hs h1 fun i d v hd hv=>hown (List.all_eq_true.1 hc d (aK hd)) (ih i d v hd hv)
 |any=>exact .fz (.any v)
 |_=>exact hown hc hr
theorem Rep.obj_le {p:Place} {v:Value} {cs cs':List D} (h:Rep S w p v (.obj cs)) (hl:DLes cs cs'):Rep S w p v (.obj cs'):=by
 cases h with
 |fz h=>cases h
 |obj hb hp hlo hh hs h1 ih=>
  refine .obj hb hp hlo hh (hl.len.trans hs) h1 fun i d v hd hv => ?_
  have hi:i < cs.length:=by rw [← hl.len];exact (bC hd)
  exact Rep.le (hl.get (List.getElem?_eq_getElem hi) hd) (ih i _ v (List.getElem?_eq_getElem hi) hv)
theorem zHl {d:D} (h:d.calm1=true):d.frz=oT d:=by
 cases d<;>first|rfl|cases h
theorem Rep.ret_kill (hf:f r=some none) {v:Value} {d:D}:∀ {x:List Nat},d.calm=true→Rep S w ⟨r,x⟩ v d→Fz (S.ret f).lim w v d.frz:=by
 have hown:∀ {x:List Nat} {v:Value} {d:D},d.calm1=true→Rep S w ⟨r,x⟩ v d→Fz (S.ret f).lim w v (oT d):=by
  intro x v d hc hr
  cases hr with
  |fz h=>exact h.ret.frz1
  |own g=>
   exact g.fz2 (fun h=>h.ret) rfl fun k _ s hs=>by
    simp only [Sig.lim,Sig.ret,g.own,hf,Option.map_none] at hs
    cases hs
  |mp=>exact .any _
  |obj=>cases hc
  |ref=>cases hc
  |gref=>cases hc
  |fn=>cases hc
  |agg=>cases hc
  |tup=>cases hc
 have hagg:∀ {x:List Nat} {v:Value} {cs:List D},cs.all D.calm1=true→Rep S w ⟨r,x⟩ v (.agg cs)→Fz (S.ret f).lim w v (.agg (cs.map oT)):=by
  intro x v cs hc hr
  obtain ⟨vs,rfl,h1,h2,h3⟩:=hr.agg_inv
  refine .agg vs (by simp [h1]) h2 fun j d u hd hu => ?_
  rw [List.getElem?_map] at hd
  cases hcj:cs[j]? with
  |none=>rw [hcj] at hd;cases hd
  |some e=>
   rw [hcj] at hd
   cases hd
   exact hown (List.all_eq_true.1 hc e (aK hcj)) (h3 j e u hcj hu)
 intro x hc hr
 by_cases h1:d.calm1=true
 ·rw [zHl h1];exact hown h1 hr
 cases d with
 |agg cs=>exact hagg hc hr
 |tup ds=>
  obtain ⟨vs,rfl,h1,h3⟩:=hr.tup_inv
  refine .tup vs (by simp [h1]) fun j d u hd hu => ?_
  rw [List.getElem?_map] at hd
  cases hcj:ds[j]? with
  |none=>rw [hcj] at hd;cases hd
  |some e=>
   rw [hcj] at hd
   cases hd
   have hc1:=List.all_eq_true.1 hc e (aK hcj)
   have h4:=h3 j e u hcj hu
   cases e with
   |agg cs=>exact hagg hc1 h4
   |_=>exact hown hc1 h4
 |any=>exact .any v
 |_=>exact absurd hc h1
end
def mQ (tmps:Array Value):ResultVar→_root_.Go.Sem Value
 |.tmp t=>pure (tmps.getD t undef)
 |.cell a t=>do loadVar t (← asAddr (tmps.getD a undef))
theorem zEv (fn:Func) (tmps:Array Value):results fn tmps=(do
 let vs ← fn.results.mapM (mQ tmps)
 pure (if h:vs.size=1 then vs[0] else .tuple vs)):=by
 unfold results
 congr 1
theorem uY {P:Program} {tmps:Array Value} {w:World}:∀ {rs:List ResultVar},(∀ r ∈ rs,∃ v,(mQ tmps r).run P w=.ok v w)→∃ vs:List Value,(rs.mapM (mQ tmps)).run P w=.ok vs w∧vs.length=rs.length∧∀ (j:Nat) (r:ResultVar) (v:Value),rs[j]?=some r→vs[j]?=some v→(mQ tmps r).run P w=.ok v w
 |[],_=>⟨[],rfl,rfl,fun j r v h=>by simp at h⟩
 |r::rs,h=>by
  obtain ⟨v,hv⟩:=h r (by simp)
  obtain ⟨vs,h1,h2,h3⟩:=uY (P:=P) (tmps:=tmps) (w:=w) (rs:=rs) fun r hr=>h r (by simp [hr])
  refine ⟨v::vs,?_,by simp [h2],fun j r' v' hr hv' => ?_⟩
  ·rw [List.mapM_cons,Sem.run_bind,hv,Result.andThen_ok,Sem.run_bind,h1]
   rfl
  ·cases j with
   |zero=>cases hr;cases hv';exact hv
   |succ j=>exact h3 j r' v' (by simpa using hr) (by simpa using hv')
theorem zFx {P:Program} {T:Nat→Option TI} {Z:Nat→Option (List Value)} (hT:TOk P T Z) {S:Sig} {w:World} {a:Act} {fr:List D} (h:FR S w a fr) {r:ResultVar} {d:D} (hr:zEu T fr r=some d):∃ v,(mQ a.tmps r).run P w=.ok v w∧Rep S w (.slot (dY r)) v d:=by
 cases r with
 |tmp t=>
  simp only [zEu] at hr
  split at hr
  ·cases hr
  ·cases hr
  ·cases hr
  ·cases hr
  ·rename_i hn1 hn2 hn3 hn4
   obtain ⟨v,hv,hs⟩:=h.at hr
   refine ⟨v,?_,(hs.rep (by cases d<;>first|rfl|exact absurd hr (hn1 _)|exact absurd hr (hn2 _ _)|exact absurd hr (hn3 _ _ _ _ _)|exact absurd hr (hn4 _ _ _ _))).1⟩
   simp only [mQ,Array.getD_eq_getD_getElem?,hv,Option.getD_some]
   rfl
 |cell t ty=>
  simp only [zEu] at hr
  split at hr
  ·rename_i cs hd
   obtain ⟨v0,hv0,hs0⟩:=h.at hd
   obtain ⟨b,cur,e,rfl,hb,hloc,hh,hsz,h1,ih⟩:=hs0.1.obj_inv
   have hrun:∀ {v:Value},(loadVar ty ⟨b,0,none⟩).run P w=.ok v w→(mQ a.tmps (.cell t ty)).run P w=.ok v w:=fun hl=>by
    simp only [mQ,Array.getD_eq_getD_getElem?,hv0,Option.getD_some,asAddr,Sem.run_bind,Sem.run_pure,Result.andThen_ok]
    exact hl
   have hcell:∀ i,i < cs.length→w.cell? ⟨b,i,none⟩=some (cur.toList.getD i undef)∧cur[i]?=some (cur.toList.getD i undef):=fun i hi=>by
    have hc:cur[i]?=some (cur.toList.getD i undef):=by
     rw [← Array.getElem?_toList,List.getD_eq_getElem?_getD,List.getElem?_eq_getElem (by simp;omega)]
     rfl
    exact ⟨by rw [cell_of_row w b _ cur e (0,0) hh];exact hc,hc⟩
   split at hr
   ·rename_i n fl ks ht
    split at hr
    ·rename_i hn
     cases hr
     obtain rfl:=Nat.eq_of_beq_eq_true hn
     obtain ⟨dd,k1,k2⟩:=(hT.ty _ _ ht).1.h
     have hl:=nS (P:=P) w b 0 ty cur.toList dd (fun j u hu=>by
      rw [Nat.zero_add,cell_of_row w b _ cur e (0,0) hh]
      simpa using hu) k1 (by cases dd<;>first|rfl|cases k2) (by rw [(hT.ty _ _ ht).1.sz];simp [hsz])
     refine ⟨_,hrun hl,?_⟩
     refine .agg cur.toList (by simp [hsz]) (fun v hv => ?_) fun j d v hj hv => ?_
     ·obtain ⟨i,hi,rfl⟩:=List.mem_iff_getElem.1 hv
      exact h1 i _ (by simp at hi ⊢)
     ·exact ih j d v hj (by simpa using hv)
    ·cases hr
   ·rename_i i hi ht
    haveI:=(hT.ty _ _ ht).one (fun n fl ks e=>hi n fl ks e)
    split at hr
    ·split at hr
     ·rename_i d0 ho
      cases hr
      obtain ⟨k1,k2⟩:=hcell 0 (by simp)
      refine ⟨_,hrun ?_,.fz (D.one_fz (ih 0 d _ rfl k2) ho)⟩
      obtain ⟨dd,q1,q2⟩:=TOne.h (P:=P) (t:=ty)
      unfold loadVar
      rw [Sem.run_bind,cL q1,q2]
      simp [k1]
     ·cases hr
    ·cases hr
   ·cases hr
  ·cases hr
theorem zHC {ds:List D} (h:(D.tup ds).calm=true) {j:Nat} {d:D} (hd:ds[j]?=some d):d.calm=true:=by
 have h1:=List.all_eq_true.1 h d (aK hd)
 cases d with
 |agg cs=>exact h1
 |_=>first|exact h1|cases h1
section
variable {P:Program} {T:Nat→Option TI} {Z:Nat→Option (List Value)} {M:Nat→Bool}
theorem zAP (hT:TOk P T Z) (hm:P.follows .mixedOrders=true) {f:Nat} {fn:Func} {c:Code} {d:D} {out:Option D} (hf:P.funcs[f]?=some fn) (hb:fn.body=some c) (hcalm:d.calm=true) (hargs:∀ d ∈ args,∀ t,¬ Men t d) (hnt:Nat.ble args.length fn.ntmps=true)
  {rs:List ResultVar} (hrs:fn.results.toList=rs) (hnd:decide (rs.map dY).Nodup=true)
  (hout:∀ d',out=some d'→d'.left=true∧(rs.all fun r => !Nat.beq (dY r) 0)=true∧∃ cs,args[0]?=some (.obj cs))
  (hv:HT P c (args++List.replicate (fn.ntmps - args.length) .any) fun e fr'=>EndsO T e rs fr' d out):∀ (S:Sig) (w:World) (vs:List Value),WF S w→vs.length=args.length→(∀ (i:Nat) (d:D) (v:Value),args[i]?=some d→vs[i]?=some v→Rep S w (.slot i) v d)→
  Calls P f vs.toArray w fun e w'=>∃ v S',e=.returned v∧WF S' w'∧Trans S w S' w'∧Rep S' w' .res v d∧∀ d' v0,out=some d'→vs[0]?=some v0→Rep S' w' (.slot 0) v0 d':=by
 refine fun S w vs hw hl hr=>calls_of_wp hf hb ?_
 have hF:FR S w { tmps:=vs.toArray++Array.replicate (fn.ntmps - vs.toArray.size) undef,defers := [] } (args++List.replicate (fn.ntmps - args.length) .any):=by
  refine ⟨hw,by simp [hl],rfl,fun i e v hi hv => ?_⟩
  by_cases hia:i < args.length
  ·rw [List.getElem?_append_left hia] at hi
   have hv':vs[i]?=some v:=by
    have:(vs.toArray++Array.replicate (fn.ntmps - vs.toArray.size) undef)[i]?=vs[i]?:=by
     rw [Array.getElem?_append_left (by simpa [hl] using hia)]
     simp
    rw [← this];exact hv
   have hno:=hargs e (aK hi)
   exact SlotRep.of (hr i e v hi hv') fun t ht=>absurd ht (hno t)
  ·rw [List.getElem?_append_right (by omega)] at hi
   have:=aK hi
   rw [List.mem_replicate] at this
   rw [this.2]
   exact SlotRep.of (.fz (.any _)) fun t ht=>by cases ht
 refine hv.h S w _ hF _ fun e fr' S' w' a' hk ht hF' => ?_
 obtain ⟨⟨he,hret⟩,ho⟩:=hk
 have left:∀ d' v0,out=some d'→vs[0]?=some v0→Rep S' w' (.slot 0) v0 d':=by
  intro d' v0 hd' hv0
  obtain ⟨_,_,cs0,h0⟩:=hout d' hd'
  subst hd'
  unfold zGk at ho
  split at ho
  ·rename_i he;cases he
  ·rename_i cs' he
   cases he
   split at ho
   ·rename_i cs hd
    rw [List.head?_eq_getElem?] at hd
    obtain ⟨v1,hv1,hs1⟩:=hF'.at hd
    have h1:v1=.pointer (some ⟨S'.loc 2,0,none⟩):=by
     obtain ⟨b,_,_,rfl,_,hloc,_⟩:=hs1.1.obj_inv
     rw [hloc]
    have h2:v0=.pointer (some ⟨S.loc 2,0,none⟩):=by
     obtain ⟨b,_,_,rfl,_,hloc,_⟩:=(hr 0 _ v0 h0 hv0).obj_inv
     rw [hloc]
    have:v0=v1:=by rw [h1,h2,ht.loc2]
    subst this
    exact hs1.1.obj_le ho
   ·exact ho.elim
  ·exact ho.elim
 obtain ⟨Lft,hLft⟩:∃ L:Sig→Prop,∀ S'',L S''↔(∀ d' v0,out=some d'→vs[0]?=some v0→Rep S'' w' (.slot 0) v0 d'):=⟨_,fun _=>Iff.rfl⟩
 have post:a'.defers = []∧∃ v,(results fn a'.tmps).run P w'=.ok v w'∧∃ v' S'',Ending.returned v=.returned v'∧WF S'' w'∧Trans S w S'' w'∧Rep S'' w' .res v' d∧∀ d' v0,out=some d'→vs[0]?=some v0→Rep S'' w' (.slot 0) v0 d':=by
  refine ⟨hF'.defers,?_⟩
  have hnd':(rs.map dY).Nodup:=of_decide_eq_true hnd
  -- which results are handed on with what they own
  have key:∀ (ds:List D) (one:Bool),RetL T fr' rs ds→(∀ (j:Nat) (d:D),ds[j]?=some d→d.calm=true)→(one=true→rs.length=1)→∃ (S'':Sig) (vs:List Value),(results fn a'.tmps).run P w'=.ok (if h:vs.length=1 then vs[0] else .tuple vs.toArray) w'∧vs.length=ds.length∧WF S'' w'∧Trans S' w' S'' w'∧(∀ (j:Nat) (v:Value) (d:D),vs[j]?=some v→ds[j]?=some d→Rep S'' w' ⟨1,if one then [] else [j]⟩ v d)∧Lft S'':=by
   intro ds one hrl hcs hone
   classical
   obtain ⟨hlen,hget⟩:=hrl.get
   have hall:∀ r ∈ rs,∃ v,(mQ a'.tmps r).run P w'=.ok v w':=fun r hr=>by
    obtain ⟨j,hj,rfl⟩:=List.mem_iff_getElem.1 hr
    have hjd:j < ds.length:=by omega
    obtain ⟨d0,h0,_⟩:=hget j _ _ (List.getElem?_eq_getElem hj) (List.getElem?_eq_getElem hjd)
    obtain ⟨v,hv,_⟩:=zFx hT hF' h0
    exact ⟨v,hv⟩
   obtain ⟨vs,hvs,hvl,hvj⟩:=uY (P:=P) hall
   let f:Nat→Option (Option (List Nat)):=fun r=>match rs.findIdx? (fun t=>dY t+2 == r) with
    |none=>none
    |some j=>if (∀ t d d0,rs[j]?=some t→ds[j]?=some d→zEu T fr' t=some d0→DLe d0 d) then some (some (if one then [] else [j])) else some none
   have hf0:f 0=none:=by
    have:rs.findIdx? (fun t=>dY t+2 == 0)=none:=by
     rw [List.findIdx?_eq_none_iff]
     intro t _
     simp
    simp only [f,this]
   have hfj:∀ (j:Nat) (t:ResultVar),rs[j]?=some t→rs.findIdx? (fun t'=>dY t'+2 == dY t+2)=some j:=fun j t hj=>by
    have hjl:j < rs.length:=(bC hj)
    have hjt:rs[j]=t:=(List.getElem?_eq_some_iff.1 hj).2
    rw [List.findIdx?_eq_some_iff_getElem]
    refine ⟨hjl,by simp [hjt],fun k hk => ?_⟩
    have hne:=List.pairwise_iff_getElem.1 hnd' k j (by simp;omega) (by simpa using hjl) hk
    simp only [List.getElem_map,hjt] at hne
    simp only [beq_iff_eq,Nat.add_right_cancel_iff]
    simpa using hne
   obtain ⟨t1,w1⟩:=Sig.ret_trans (f:=f) hF'.wf hf0
   have hl:fn.results=rs.toArray:=by rw [← hrs]
   have hrun:(results fn a'.tmps).run P w'=.ok (if h:vs.length=1 then vs[0] else .tuple vs.toArray) w':=by
    rw [zEv,hl,List.mapM_toArray,Sem.run_bind,Sem.run_map,hvs]
    rfl
   refine ⟨S'.ret f,vs,hrun,by omega,w1,t1,fun j v d hv hd => ?_,(hLft _).2 fun d' v0 hd' hv0 => ?_⟩
   case refine_2=>
    obtain ⟨hleft,hns,_⟩:=hout d' hd'
    have hf2:f 2=none:=by
     have:rs.findIdx? (fun t=>dY t+2 == 2)=none:=by
      rw [List.findIdx?_eq_none_iff]
      intro t ht'
      have:=List.all_eq_true.1 hns t ht'
      simp only [Bool.not_eq_true'] at this
      simp only [beq_eq_false_iff_ne,ne_eq]
      intro he
      have hz:dY t=0:=by omega
      rw [hz] at this
      cases this
     simp only [f,this]
    exact Rep.ret_none hf2 hleft (left d' v0 hd' hv0)
   have hj:j < rs.length:=by rw [← hvl];exact (bC hv)
   have hjr:rs[j]?=some rs[j]:=List.getElem?_eq_getElem hj
   obtain ⟨d0,hd0,hle⟩:=hget j _ d hjr hd
   obtain ⟨v',hv',hrep⟩:=zFx hT hF' hd0
   have hvv:=hvj j _ v hjr hv
   rw [hv'] at hvv
   cases hvv
   have hfi:=hfj j _ hjr
   by_cases hdle:∀ t d d0,rs[j]?=some t→ds[j]?=some d→zEu T fr' t=some d0→DLe d0 d
   ·have hft:f (dY rs[j]+2)=some (some (if one then [] else [j])):=by simp only [f,hfi];rw [if_pos hdle]
    have hr1:=Rep.le (hdle _ d d0 hjr hd hd0) hrep
    have:=Rep.ret_keep (r:=dY rs[j]+2) (x := []) hft (hcs j d hd) hr1
    simpa using this
   ·have hft:f (dY rs[j]+2)=some none:=by simp only [f,hfi];rw [if_neg hdle]
    have hnle:¬ DLe d0 d:=fun h=>hdle fun t' d' d0' h1 h2 h3=>by
     rw [hjr] at h1;cases h1
     rw [hd] at h2;cases h2
     rw [hd0] at h3;cases h3
     exact h
    rcases hle with h|⟨hc0,h⟩
    ·exact absurd h hnle
    ·exact Rep.le h (.fz (Rep.ret_kill (r:=dY rs[j]+2) (x := []) hft hc0 hrep))
  unfold zBy at hret
  split at hret
  ·rename_i t
   obtain ⟨S'',vs,hrun,hvl,w1,t1,hk,hl0⟩:=key [d] true hret (fun j d' hd=>by cases j with|zero=>cases hd;exact hcalm|succ j=>simp at hd) (fun _=>rfl)
   match vs,hvl with
   |[v],_=>exact ⟨_,hrun,_,S'',rfl,w1,ht.trans t1,hk 0 v d rfl rfl,(hLft _).1 hl0⟩
  ·rename_i rs' hne
   split at hret
   ·rename_i ds
    obtain ⟨hlen,_⟩:=hret.get
    obtain ⟨S'',vs,hrun,hvl,w1,t1,hk,hl0⟩:=key ds false hret (fun j d' hd=>zHC hcalm hd) (fun e=>by cases e)
    have hn1:¬ vs.length=1:=fun e=>by
     match rs,(show rs.length=1 by omega) with
     |[t],_=>exact hne t rfl
    rw [dif_neg hn1] at hrun
    exact ⟨_,hrun,_,S'',rfl,w1,ht.trans t1,.tup vs hvl fun j d' v hd hv=>hk j v d' hv hd,(hLft _).1 hl0⟩
   ·exact hret.elim
 rcases he with rfl|rfl
 ·exact post
 ·exact post
theorem zGC (hT:TOk P T Z) (hm:P.follows .mixedOrders=true) {f:Nat} {fn:Func} {c:Code} {d:D} (hf:P.funcs[f]?=some fn) (hen:Enters P f) (hb:fn.body=some c) (hcalm:d.calm=true) (hargs:(args.all fun d=>d.calm || d.passes)=true) (hnt:Nat.ble args.length fn.ntmps=true)
  {rs:List ResultVar} (hrs:fn.results.toList=rs) (hnd:decide (rs.map dY).Nodup=true)
  (hv:aN (args++List.replicate (fn.ntmps - args.length) .any) fun fr=>vc P T Z M c fr fun e fr'=>Ends T e rs fr' d):Sem P f args d:=by
 refine ⟨hen,hcalm,fun S w vs hw hl hr=>(zAP (out:=none) hT hm hf hb hcalm (fun d hd t ht => ?_) hnt hrs hnd (fun d' h=>nomatch h) ?_ S w vs hw hl hr).mono fun e w' ⟨v,S',h1,h2,h3,h4,_⟩=>⟨v,S',h1,h2,h3,h4⟩⟩
 ·have hno:=List.all_eq_true.1 hargs d hd
  simp only [Bool.or_eq_true] at hno
  rcases hno with h|h
  ·exact (D.calm_men h ht).elim
  ·exact (D.passes_men h ht).elim
 ·rw [aD] at hv
  exact ⟨fun S w a hF Q' hQ=>(xC hT hm c hv).h S w a hF Q' fun e fr' S' w' a' k t f=>hQ e fr' S' w' a' ⟨k,trivial⟩ t f⟩
theorem zEq (hT:TOk P T Z) (hm:P.follows .mixedOrders=true) {f:Nat} {fn:Func} {c:Code} {cs cs':List D} {d:D} (hf:P.funcs[f]?=some fn) (hen:Enters P f) (hb:fn.body=some c) (hcalm:d.calm=true) (hc:cs.all D.calm1=true) (hc':cs'.all D.calm1=true) (hargs:args.all D.passes=true) (hnt:Nat.ble (args.length+1) fn.ntmps=true)
  {rs:List ResultVar} (hrs:fn.results.toList=rs) (hnd:decide (rs.map dY).Nodup=true) (hr0:(rs.all fun r => !Nat.beq (dY r) 0)=true)
  (hv:aN (.obj cs::args++List.replicate (fn.ntmps - (args.length+1)) .any) fun fr=>vc P T Z M c fr fun e fr'=>EndsO T e rs fr' d (some (.obj cs'))):SemO P f (.obj cs) args d (some (.obj cs')):=by
 refine ⟨hen,hcalm,fun d' h=>by cases h;exact hc',fun S w v0 vs hw hr hl hfz => ?_⟩
 rw [aD] at hv
 have hv':=xC hT hm c hv
 refine (zAP (args:=.obj cs::args) (out:=some (.obj cs')) hT hm hf hb hcalm (fun d hd t ht => ?_) (by simpa using hnt) hrs hnd (fun d' h=>by cases h;exact ⟨hc',hr0,cs,rfl⟩) (by simpa using hv') S w (v0::vs) hw (by simp [hl]) (fun i d v hd hv => ?_)).mono fun e w' ⟨v,S',h1,h2,h3,h4,h5⟩=>⟨v,S',h1,h2,h3,h4,fun d' hd'=>h5 d' v0 hd' rfl⟩
 ·rcases List.mem_cons.1 hd with rfl|hd
  ·exact D.left_men (d:=.obj cs) hc ht
  ·exact D.passes_men (List.all_eq_true.1 hargs d hd) ht
 ·cases i with
  |zero=>cases hd;cases hv;exact hr
  |succ i=>exact .fz (hfz i d v (by simpa using hd) (by simpa using hv))
end
end Go.Proofs.YtnjgoldinaffgaaGreatDoor
namespace Go.Proofs.YtnjgoldinaffgaaGreatDoor
set_option linter.unusedSimpArgs false
set_option linter.unusedVariables false
open Go.RowKit
variable {a b:List (List D)} {args ds':List D} {out:Option D}
theorem aA:(∀ {α:Type} [BEq α] [LawfulBEq α] {a b:α},(a != b)=true↔a ≠ b)∧(∀ {α:Type} (a b:α),(a ≠ b)=¬ (a=b))∧(∀ {α:Type} [BEq α] [LawfulBEq α] {a b:α},(a != b)=false↔a=b)∧(∀ {α:Type} [BEq α] [LawfulBEq α] {a b:α},(a == b)=true↔a=b)∧
  (∀ {α:Type} [BEq α] [LawfulBEq α] {a b:α},(a == b)=false↔a ≠ b)∧(∀ {p:Prop} [Decidable p],(decide p=true)=p)∧(∀ {p:Prop} [Decidable p],decide p=false↔¬ p)∧(∀ b:Bool,((!b)=true)=(b=false))∧(∀ b:Bool,((!b)=false)=(b=true))∧(∀ a b:Bool,((a && b)=true)=(a=true∧b=true))∧
  (∀ a b:Bool,((a || b)=true)=(a=true∨b=true))∧(∀ {a b:Bool},(a && b)=false↔a=false∨b=false)∧(∀ {a b:Bool},(a || b)=false↔a=false∧b=false)∧(∀ {a b:Int},¬ a < b↔b≤a)∧(∀ {a b:Int},¬ a≤b↔b < a)∧(∀ b:Bool,(¬ (b=true))=(b=false))∧(∀ b:Bool,(¬ (b=false))=(b=true))∧
  (∀ {α β:Type} {as:List α} (f:α→β),(as.map f).length=as.length)∧(∀ {α:Type} (a:α) (as:List α),(a::as).length=as.length+1)∧(∀ {α:Type},([]:List α).length=0):=by
 refine ⟨?_,?_,?_,?_,?_,?_,?_,?_,?_,?_,?_,?_,?_,?_,?_,?_,?_,?_,?_,?_⟩<;>intros<;>first|exact Bool.and_eq_false_iff|exact Bool.or_eq_false_iff|simp
theorem dG {ops:List Oper} {ok:Nat→Bool} {F:Nat→Prop} (h1:ok (zDO ops 0)=true) (h2:F (zDO ops 0)):DrawR ops ok F:=⟨_,h1,h2⟩
theorem DrawR.at {ops:List Oper} {ok:Nat→Bool} {F:Nat→Prop} (d m:Nat) (h0:(match ops with|o::_=>o.dst | []=>none)=some d) (h1:ok m=true) (h2:F m):DrawR ops ok F:=⟨m,h1,h2⟩
theorem rR {T:Nat→Option TI} {rs:List ResultVar} {fr:List D} {d:D} (h:zBy T rs fr d):Ends T .ret rs fr d:=⟨.inr rfl,h⟩
theorem rE {T:Nat→Option TI} {rs:List ResultVar} {fr:List D} {d:D} (h:zBy T rs fr d):Ends T .normal rs fr d:=⟨.inl rfl,h⟩
theorem oR {T:Nat→Option TI} {rs:List ResultVar} {fr:List D} {d:D} (h:zBy T rs fr d) (o:zGk fr out):EndsO T .ret rs fr d out:=⟨rR h,o⟩
theorem oN {T:Nat→Option TI} {rs:List ResultVar} {fr:List D} {d:D} (h:zBy T rs fr d) (o:zGk fr out):EndsO T .normal rs fr d out:=⟨rE h,o⟩
theorem zNV {P:Program} {f:Nat} {d:D} (h:zAc P f args d) (flat:d.flat=true):GivesL P f args d:=⟨flat,h⟩
theorem aU {P:Program} {f:Nat} {d0 d1:D} {d:D} (hs:SemO P f d1 ds' d out) (h:d0=d1∧DLes args ds'∧ds'.all D.passes=true):uO P f d0 args d out:=⟨d1,ds',h.1,h.2.1,h.2.2,hs⟩
theorem DLe.of_eq {d d':D} (h:d=d'):DLe d d':=h ▸ .refl d
theorem zFv {k:IntKind} (p:Int):0≤(1:Int)∧(1:Int)≤k.bits∧p / 2 ^ (1:Int).toNat=p / 2:=⟨by decide,by cases k<;>decide,rfl⟩
theorem sF {d:D}:RLe d d:=.le (.refl d)
theorem aJ {k:IntKind} {a b:Int} (h:a=b):RLe (.int k a) (.int k b):=h ▸ sF
theorem aS {a b:Bool} (h:a=b):RLe (.bool a) (.bool b):=h ▸ sF
theorem zKZ {a b:List UInt8} (h:a=b):RLe (.str a) (.str b):=h ▸ sF
theorem zK0 {m sz:Nat} (h:a=b):RLe (.sl m sz a) (.sl 0 sz b):=h ▸ .frz rfl (.refl _)
theorem zK1 {m sz:Nat} (h:b = []):RLe .nil (.sl m sz b):=by subst h;exact .le (.nil m sz)
inductive LLe:List (List D)→List (List D)→Prop
 |refl (l:List (List D)):LLe l l
 |cons {r r':List D} {l l':List (List D)} (h:DLes r r') (hs:LLe l l'):LLe (r::l) (r'::l')
 |app {a a' b b':List (List D)} (h:LLe a a') (hs:LLe b b'):LLe (a++b) (a'++b')
 |eq {l l':List (List D)} (h:l=l'):LLe l l'
theorem LLe.get {l l':List (List D)} (h:LLe l l'):l'.length=l.length∧∀ (k:Nat) (r r':List D),l[k]?=some r→l'[k]?=some r'→DLes r r':=by
 induction h with
 |refl l=>exact ⟨rfl,fun k r r' h1 h2=>by rw [h1] at h2;cases h2;exact DLes.refl _⟩
 |eq h=>subst h;exact ⟨rfl,fun k r r' h1 h2=>by rw [h1] at h2;cases h2;exact DLes.refl _⟩
 |cons h _ ih=>
  refine ⟨by simp [ih.1],fun k r r' h1 h2 => ?_⟩
  cases k with
  |zero=>cases h1;cases h2;exact h
  |succ k=>exact ih.2 k r r' (by simpa using h1) (by simpa using h2)
 |@app a a' b b' _ _ ih1 ih2=>
  refine ⟨by simp [ih1.1,ih2.1],fun k r r' h1 h2 => ?_⟩
  by_cases hk:k < a.length
  ·rw [List.getElem?_append_left hk] at h1
   rw [List.getElem?_append_left (by rw [ih1.1];exact hk)] at h2
   exact ih1.2 k r r' h1 h2
  ·rw [List.getElem?_append_right (by omega)] at h1
   rw [List.getElem?_append_right (by rw [ih1.1];omega),ih1.1] at h2
   exact ih2.2 _ r r' h1 h2
theorem zDQ {m sz:Nat} (h:LLe a b):DLe (.sl m sz a) (.sl m sz b):=
 .rows h.get.1 (fun k r r' h1 h2=>(h.get.2 k r r' h1 h2).len) fun k r r' j d d' h1 h2 h3 h4=>(h.get.2 k r r' h1 h2).get h3 h4
theorem aB {a b:List D} (h:DLes a b):DLe (.agg a) (.agg b):=.agg h.len fun _ _ _ h1 h2=>h.get h1 h2
theorem aG {a b:List D} (h:DLes a b):RLe (.agg a) (.agg b):=.le (aB h)
theorem cT {k:IntKind} {a b:Int} (h:a=b):DLe (.int k a) (.int k b):=h ▸ .refl _
theorem zKv {a b:Bool} (h:a=b):DLe (.bool a) (.bool b):=h ▸ .refl _
theorem zFc {m sz:Nat} (h:a=b):DLe (.sl m sz a) (.sl m sz b):=h ▸ .refl _
theorem zLO {m sz:Nat} (h:b = []):DLe .nil (.sl m sz b):=by subst h;exact .nil m sz
theorem yX {α:Type} {f:α→List D} {l:List α} {j:Int} {x:α} (h0:0≤j) (h:l[j.toNat]?=some x):0≤j∧(l.map f)[j.toNat]?=some (f x):=⟨h0,by rw [List.getElem?_map,h];rfl⟩
theorem zBY {α:Type} {f:α→List D} {l:List α} {k:Nat} {x:α} (h:l[k]?=some x):0≤(k:Int)∧(l.map f)[(k:Int).toNat]?=some (f x):=yX (by omega) h
theorem aP {α:Type} {f:α→List D} {l:List α} {j:Int} {k:Nat} {x:α} (h:l[k]?=some x) (hj:j=k):0≤j∧(l.map f)[j.toNat]?=some (f x):=by subst hj;exact zBY h
def zHc (i:Nat):List (Nat × D)→D
 |[]=>.any
 |(j,d)::r=>match Nat.beq i j with
  |true=>d
  |false=>zHc i r
def wrs:Code→List Nat
 |.region _ ops _=>ops.toList.filterMap (·.dst)
 |.seq a b=>wrs a++wrs b
 |.cond _ a b=>wrs a++wrs b
 |.block _ a=>wrs a
 |.loop a=>wrs a
 |_ => []
def gF (i:Nat):List Nat→Bool
 |[]=>false
 |j::r=>match Nat.beq i j with
  |true=>true
  |false=>gF i r
def head (ws:List Nat) (l:List (Nat × D)):Nat→List D→List D
 |_,[] => []
 | i,d::r=>(match gF i ws || gF i (l.map (·.1)) with
  |true=>zHc i l
  |false=>match d with
   |.al u=>match gF u ws with
    |true=>zHc i l
    |false=>.al u
   |.alc _ _=>zHc i l
   |.el _ _ _ _ _=>zHc i l
   |.es _ _ _ _=>zHc i l
   | d=>d)::head ws l (i+1) r
section
variable {P:Program} {T:Nat→Option TI} {Z:Nat→Option (List Value)} {M:Nat→Bool}
theorem aL (hT:TOk P T Z) (hm:P.follows .mixedOrders=true) {c:Code} {fr:List D} {Q:Exit→List D→Prop} {α:Type} (I:α→List (Nat × D)) (pre:α→Prop) (μ:α→Nat) (x0:α) (h0:gG (head (wrs c) (I x0) 0 fr) (FLe fr)) (hp0:pre x0)
  (step:∀ x,pre x→gG (head (wrs c) (I x) 0 fr) fun fr1=>vc P T Z M c fr1 fun e fr'=>match e with
   |.normal=>Halt' (∃ y,pre y∧μ y < μ x∧gG (head (wrs c) (I y) 0 fr) (FLe fr'))
   | e=>Q e fr'):HT P (.loop c) fr Q:=by
 simp only [dF] at h0 step
 exact zKT hT hm (fun x=>head (wrs c) (I x) 0 fr) pre μ x0 h0 hp0 step
def zPN (ts:List Nat) (fr:List D):List D:=ts.foldl (fun fr t=>vY fr (.tmp t)) fr
theorem zLK (ts:List Nat) {c:Code} {fr:List D} {Q:Exit→List D→Prop} (h:aN (zPN ts fr) fun fr=>HT P c fr Q):HT P c fr Q:=by
 rw [aD] at h
 refine ⟨fun S w a hF Q' hQ => ?_⟩
 obtain ⟨S1,t1,h1⟩:=eK (fun S fr t h=>gP h (.tmp t)) ts _ _ hF
 exact h.h S1 w a h1 Q' fun e fr' S' w' a' k t f=>hQ e fr' S' w' a' k (t1.trans t) f
end
/-! Closers: each is tried where it is named. -/
theorem DLes.au {a b:List D} (h:DLes a b:=by first|exact DLes.refl _|((repeat (first|exact DLes.nil|((apply DLes.cons);(focus (first|exact DLe.refl _|exact DLe.own _ _|exact DLe.nil _ _|exact DLe.any _)))));(first|done|fail))):DLes a b:=h
theorem pre {p:Prop} (h:p:=by first|exact rfl|assumption|omega|(simp;omega)|(simp;(first|done|fail))):p:=h
theorem eX {p:Prop} (h:p:=by first|(refine ⟨?_,?_,?_⟩;(focus (first|exact rfl|(simp;done)));(focus exact DLes.au);exact rfl)|exact rfl|assumption|omega|(simp;omega)|(simp;(first|done|fail))):p:=h
theorem bV {p:Prop} (h:p:=by first|exact zBY (by assumption)|exact yX (by omega) (by assumption)|exact aP (by assumption) (by omega)|exact zFv _|exact IntWalk.i64_in _ (by omega)|exact IntWalk.u8_in _ (by omega)|exact ⟨by omega,IntWalk.i64_quo _ _ ⟨by omega,by omega,by omega⟩⟩|exact ⟨by omega,IntWalk.rem_in _ _ (by omega)⟩|exact IntWalk.u64_in _ (by omega)|exact IntWalk.i32_in _ (by omega)|exact rfl|exact ⟨by omega,rfl⟩|exact ⟨by omega,(by decide),IntWalk.i64_in _ (by omega)⟩|exact ⟨by omega,(by decide),rfl⟩|exact ⟨by omega,(by show _≤(64:Int);omega),rfl⟩|exact ⟨rfl,rfl⟩|assumption|exact ⟨by omega,by omega⟩|exact ⟨by omega,by simp;omega⟩|omega|exact ⟨rfl,rfl,by simp only [List.length_map,List.length_append,List.length_cons,List.length_nil];omega⟩|exact ⟨rfl,rfl,by simp;omega⟩|exact ⟨rfl,rfl,by omega⟩|exact ⟨rfl,by simp;omega⟩|exact id|(intro h;simp [h];done)|((repeat (first|exact trivial|exact rfl|apply And.intro));done)|(simp;omega)|(refine ⟨?_,?_,?_⟩<;>first|omega|(simp;done)|(simp;omega))|(simp_all;(first|done|fail))):p:=h
theorem aC {p:Prop} (h:p:=by first|exact zBY (by assumption)|exact yX (by omega) (by assumption)|exact aP (by assumption) (by omega)|exact zFv _|exact IntWalk.i64_in _ (by omega)|exact IntWalk.u8_in _ (by omega)|exact ⟨by omega,IntWalk.i64_quo _ _ ⟨by omega,by omega,by omega⟩⟩|exact ⟨by omega,IntWalk.rem_in _ _ (by omega)⟩|exact IntWalk.u64_in _ (by omega)|exact IntWalk.i32_in _ (by omega)|exact rfl|exact ⟨by omega,rfl⟩|exact ⟨by omega,(by decide),IntWalk.i64_in _ (by omega)⟩|exact ⟨by omega,(by decide),rfl⟩|exact ⟨by omega,(by show _≤(64:Int);omega),rfl⟩|exact ⟨rfl,rfl⟩|assumption|exact ⟨by omega,by omega⟩|exact ⟨by omega,by simp;omega⟩|omega|exact ⟨rfl,rfl,by simp only [List.length_map,List.length_append,List.length_cons,List.length_nil];omega⟩|exact ⟨rfl,rfl,by simp;omega⟩|exact ⟨rfl,rfl,by omega⟩|exact ⟨rfl,by simp;omega⟩|exact id|(intro h;simp [h];done)|((repeat (first|exact trivial|exact rfl|apply And.intro));done)|(simp;omega)|(refine ⟨?_,?_,?_⟩<;>first|omega|(simp;done)|(simp;omega))|exact hc0|exact ⟨hc0,hc0⟩|exact ⟨hc0,hc0,hc0⟩|(simp only [Bool.and_eq_true] at hc0;simp [hc0];done)|(simp_all;(first|done|fail))):p:=h
theorem aM {p:Prop} (h:False:=by first|contradiction|exact absurd hb (by assumption)|exact absurd (by assumption) hb|(exfalso;omega)|(exfalso;simp at hb;(first|done|fail))):p:=h.elim
theorem aI {p:Prop} (h:p:=by first|exact trivial|exact DLes.nil|with_reducible exact DLe.refl _|exact DLe.any _|with_reducible exact sF|exact aS rfl|exact aJ rfl|exact zK1 rfl|exact zK0 rfl):p:=h
theorem bE {p:Prop} (h:p:=by first|exact DLes.nil|with_reducible exact DLe.refl _|exact DLe.any _):p:=h
theorem aO {p:Prop} (h:p:=by first|exact DLe.refl _|exact cT (by omega)|exact zLO rfl|exact DLe.own _ _):p:=h
theorem gx {P:Program} {f:Nat} {d:D} {G:Prop} (hs:Sem P f ds' d) (k:zAc P f args d→G:=by first|exact id|exact fun h=>zNV h rfl) (hl:DLes args ds':=by exact DLes.au) (hp:ds'.all D.passes=true:=by exact rfl):G:=k ⟨ds',hl,hp,hs⟩
theorem aE {p q:Prop} (h2:q) (h1:p:=by first|exact hc0|exact ⟨hc0,hc0⟩|exact ⟨hc0,hc0,hc0⟩):p∧q:=⟨h1,h2⟩
/-! short names -/
theorem eN {F:Int→Prop} {r:Int} (h:F r):NumE F:=⟨r,h⟩
theorem eI {F:List D→Prop} {r:List D} (h:F r):IdxE F:=⟨r,h⟩
theorem eT {F:List UInt8→Prop} {s:List UInt8} (h:F s):TextE F:=⟨s,h⟩
theorem eL {F:D→Bool→Prop} {r:D} {o:Bool} (h:F r o):LookE F:=⟨r,o,h⟩
theorem eC {F:D→Prop} {d:D} (h:F d):CallE F:=⟨d,h⟩
theorem cD {b:Bool} {x y:Prop} (t:b=true→x) (f:b=false→y):CondD b x y:=⟨t,f⟩
theorem sD {s q:Prop} (bV:s) (rest:q):SideD s q:=⟨bV,rest⟩
theorem rH {p:Prop} (h:p):Halt' p:=⟨h⟩
theorem kB {b:Bool} {F:Prop} (h1:b=true) (h2:F):KerB b F:=⟨h1,h2⟩
theorem dC {d d':D} {ds:List D} (h:DLe d d') (hs:DLes ds ds'):DLes (d::ds) (d'::ds'):=.cons h hs
theorem aT {p:Prop} (h:p:=by repeat' ((conv=>whnf);first|exact aI|(with_reducible first|apply And.intro|apply oR|apply oN|apply DLes.cons))):p:=h
theorem aV {p:Prop} (h:p:=by (conv=>whnf);refine ⟨?_,by rfl⟩;repeat' ((conv=>whnf);first|exact bE|exact aO|with_reducible apply DLes.cons)):p:=h
end Go.Proofs.YtnjgoldinaffgaaGreatDoor
namespace Go.Proofs.YtnjgoldinaffgaaGreatDoor
set_option linter.unusedSimpArgs false
set_option linter.unusedVariables false
open Go.RowKit
variable {P:Program} {args:List D} {rows:List (List D)} {w:World}
def zNH (u off sz:Nat) (fr:List D):List D:=match fr[u]? with
 |some (.obj cs)=>match cs[off]? with
  |some .nil=>match cs.all fun d=>d.one || zAm d with
   |true=>fr.set u (.obj (cs.set off (.sl 2 sz [])))
   |false=>fr
  |_=>fr
 |_=>fr
theorem zLb {d:D} (h:d.one=true) {t:Nat}:¬ Men t d:=fun hm=>by
 cases d<;>first|(cases h;done)|(cases hm;done)
theorem zEO {S:Sig} {a:Act} {fr:List D} (h:FR S w a fr) (u off sz:Nat):FR S w a (zNH u off sz fr):=by
 unfold zNH
 split
 ·rename_i cs hd
  split
  ·rename_i hc
   split
   ·rename_i hall
    have hlo:off < cs.length:=(bC hc)
    refine h.recellAll hd (by simp) (fun i d' x hi hx => ?_) fun d' hd' t => ?_
    ·obtain ⟨v,hv,hs⟩:=h.at hd
     obtain ⟨b,cur,e,rfl,hbo,hloc,hh,hsz,h1,ih⟩:=hs.1.obj_inv
     rw [hloc,cell_of_row w b _ cur e (0,0) hh] at hx
     by_cases hio:i=off
     ·subst hio
      rw [List.getElem?_set_self hlo] at hi
      cases hi
      have:=ih i _ x hc hx
      cases this with
      |fz hz=>
       cases hz with
       |nil=>exact .fz (.slNil 2 sz)
     ·rw [List.getElem?_set_ne (Ne.symm hio)] at hi
      exact ih i d' x hi hx
    ·rcases List.mem_or_eq_of_mem_set hd' with hm|rfl
     ·have:=List.all_eq_true.1 hall d' hm
      simp only [Bool.or_eq_true] at this
      rcases this with h1|h1
      ·exact zLb h1
      ·exact nX h1
     ·exact nX rfl
   ·exact h
  ·exact h
 ·exact h
def zPo (L:List (Nat × Nat × Nat)) (fr:List D):List D:=L.foldl (fun fr x=>zNH x.1 x.2.1 x.2.2 fr) fr
theorem yE {S:Sig} {w:World} {a:Act}:∀ (L:List (Nat × Nat × Nat)) {fr:List D},FR S w a fr→FR S w a (zPo L fr)
 |[],_,h=>h
 |x::L,_,h=>yE L (zEO h x.1 x.2.1 x.2.2)
theorem zKd (L:List (Nat × Nat × Nat)) {c:Code} {fr:List D} {Q:Exit→List D→Prop} (h:aN (zPo L fr) fun fr=>HT P c fr Q):HT P c fr Q:=by
 rw [aD] at h
 exact ⟨fun S w a hF Q' hQ=>h.h S w a (yE L hF) Q' hQ⟩
theorem uB {S:Sig} {w':World} (hw:WF S w) (hx:Below w.heap.size w w') {v:Value} {sz:Nat} {news:List Value} {t:TypeId} (hall:∀ r ∈ rows,r.length=sz) (h1:∀ u ∈ news,u.oneCell'=true)
  (hk:∀ (k:Nat) (r:List D) (j:Nat) (d:D),rows[k]?=some r→r[j]?=some d→∃ u,news[k * sz+j]?=some u∧Fz S.lim w u d) (ho:w'.ownsRow w.heap.size t sz v rows.length news):∃ S',WF S' w'∧Trans S w S' w'∧Rep S' w' .res v (.sl 2 sz rows):=by
 have hx':Ext w w':=hx
 have hp:=PT.ext' hw hx'
 rcases ho.2 with ⟨rfl,h0⟩|⟨g,cap,cur,rfl,hb,hg,hnc,hcm,hcs,ht⟩
 ·have:rows = []:=List.eq_nil_of_length_eq_zero h0
  subst this
  exact ⟨S,hp.wf,hp.trans,.fz (.slNil 2 sz)⟩
 ·have hlt:g < w'.heap.size:=(Array.getElem?_eq_some_iff.1 hg).1
  have hne:∀ b,b < w.heap.size→b ≠ g:=fun b h e=>by omega
  have hq:PT S w (S.set g (some (.res,0))) w':=⟨hx',fun b h=>Sig.set_ne _ _ (hne b h),rfl,⟨fun b x hb'=>by
   by_cases hbg:b=g
   ·subst hbg;exact hlt
   ·rw [Sig.set_ne _ _ hbg] at hb'
    exact hp.wf b x hb',hw.gl.keep fun b h hn=>⟨hx'.block h,(Sig.set_ne _ _ (hne b h)).trans hn⟩⟩⟩
  refine ⟨_,hq.wf,hq.trans,.own ⟨.inr rfl,hg,hnc,hcm,hcs,hall,by rw [Sig.set_at];rfl,fun k r j d hk' hd => ?_⟩⟩
  obtain ⟨u,u1,u2⟩:=hk k r j d hk' hd
  refine ⟨u,?_,h1 u (aK u1),u2.trans hq.trans⟩
  have hkl:k < rows.length:=(List.getElem?_eq_some_iff.1 hk').1
  have hj:j < sz:=by rw [← hall r (aK hk')];exact (bC hd)
  have hlt2:k * sz+j < rows.length * sz:=by
   have:(k+1) * sz≤rows.length * sz:=Nat.mul_le_mul_right _ hkl
   rw [Nat.add_mul] at this
   omega
  rw [← ht,List.getElem?_take,if_pos hlt2,Array.getElem?_toList] at u1
  exact u1
theorem zHu {f:Nat} [hen:Enters P f] {e sz:Nat} (hall:∀ r ∈ rows,r.length=sz)
  (hnil:∀ w,Calls P f #[.slice none 0 0] w fun x w'=>x=.returned (.slice none 0 0)∧w'=w)
  (hzero:∀ (A:Addr) (c:Nat) (w:World),Calls P f #[.slice (some A) 0 c] w fun x w'=>∃ v',x=.returned v'∧w'.ownsRow w.heap.size e sz v' 0 []∧v' ≠ .slice none 0 0∧Below w.heap.size w w')
  (hsome:∀ (b o c:Nat) (news:List Value) (w:World),news.length=rows.length * sz→(∀ (j:Nat) (u:Value),news[j]?=some u→w.cell? ⟨b,o+j,none⟩=some u)→(∀ u ∈ news,u.oneCell'=true)→(∃ lim,∀ (k:Nat) (r:List D) (j:Nat) (d:D),rows[k]?=some r→r[j]?=some d→∃ u,news[k * sz+j]?=some u∧Fz lim w u d)→
   Calls P f #[.slice (some ⟨b,o,none⟩) rows.length c] w fun x w'=>∃ v',x=.returned v'∧w'.ownsRow w.heap.size e sz v' rows.length news∧v' ≠ .slice none 0 0∧Below w.heap.size w w'):Sem P f [.sl 0 sz rows] (.sl 2 sz rows):=by
 refine ⟨hen,rfl,fun S w vs hw hvl hr => ?_⟩
 obtain ⟨v,rfl⟩:∃ v,vs = [v]:=by
  match vs,hvl with
  |[v],_=>exact ⟨v,rfl⟩
 have h0:=hr 0 _ v rfl rfl
 have hfz:Fz S.lim w v (.sl 0 sz rows):=h0.passes rfl
 have done:∀ (A:Addr) (c:Nat),rows = []→v=.slice (some A) 0 c→Calls P f #[v] w fun x w'=>∃ v' S',x=.returned v'∧WF S' w'∧Trans S w S' w'∧Rep S' w' .res v' (.sl 2 sz rows):=fun A c he hv=>by
  subst he;subst hv
  refine (hzero A c w).mono fun x w' ⟨v',h3,h4,_,h5⟩ => ?_
  obtain ⟨S',k1,k2,k3⟩:=uB hw h5 (rows := []) (news := []) hall (fun u hu=>by cases hu) (fun k r j d hk=>by simp at hk) h4
  exact ⟨v',S',h3,k1,k2,k3⟩
 cases hfz with
 |slNil=>
  refine (hnil w).mono fun x w' ⟨h1,h2⟩ => ?_
  subst h2
  exact ⟨_,S,h1,hw,Trans.refl S _,.fz (.slNil 2 sz)⟩
 |slE A=>exact done A 0 rfl rfl
 |@sl b o cap _ _ cv hc hm hrl hh ih=>
  rcases h0.source with ⟨A,hv,rfl⟩|⟨b',o',c,news,hv,k1,k2,k3,k4,k5⟩
  ·cases hv
   exact done _ _ rfl rfl
  ·rw [hv]
   refine (hsome b' o' c news w k1 k2 k3 ⟨_,k5⟩).mono fun x w' ⟨v',h3,h4,_,h5⟩ => ?_
   obtain ⟨S',q1,q2,q3⟩:=uB hw h5 hall k3 k5 h4
   exact ⟨v',S',h3,q1,q2,q3⟩
theorem DrawI.at {ops:List Oper} {n:Nat} {F:List (List Bool)→Prop} (d:Nat) (L:List (List Bool)) (h0:(match ops with|o::_=>o.dst | []=>none)=some d) (h1:okI ops n L=true) (h2:F L):DrawI ops n F:=⟨L,h1,h2⟩
theorem Sem.frozen {f sz:Nat} (h:Sem P f args (.sl 2 sz rows)):Sem P f args (.sl 0 sz rows):=by
 refine ⟨h.1,rfl,fun S w vs hw hl hr=>(h.2.2 S w vs hw hl hr).mono fun e w' ⟨v,S',he,hw',ht,hrep⟩ => ?_⟩
 rcases hrep.sl_inv with ⟨rfl,rfl⟩|⟨b,cap,cur,e0,rfl,g⟩
 ·exact ⟨_,S',he,hw',ht,.fz (.slNil 0 sz)⟩
 ·have hown:=g.own
  rw [if_pos rfl] at hown
  have t2:Trans S' w' (S'.set b (some (.res,rows.length * sz))) w':=by
   refine ⟨rfl,rfl,rfl,Nat.le_refl _,fun b' _ hn=>⟨rfl,?_⟩,fun b' p l _ hp hd=>⟨rfl,?_⟩,fun b' p l _ hp=>⟨Keeps.refl _ _,fun x hx => ?_⟩,rfl⟩
   ·have hne:b' ≠ b:=fun e=>by subst e;rw [hown] at hn;cases hn
    rw [S'.set_ne _ hne];exact hn
   ·have hne:b' ≠ b:=fun e=>by subst e;rw [hown] at hp;cases hp;simp [Place.res] at hd
    rw [S'.set_ne _ hne];exact hp
   ·by_cases hne:b'=b
    ·subst hne
     rw [hown] at hp
     cases hp
     exact Nat.zero_le _
    ·rw [S'.set_ne _ hne,hp] at hx
     cases hx
     exact Nat.le_refl _
  have w2:WF (S'.set b (some (.res,rows.length * sz))) w':=hw'.of t2 fun b' x hx=>by
   by_cases hne:b'=b
   ·subst hne;exact hw' _ _ hown
   ·rw [S'.set_ne _ hne] at hx;exact hw' _ _ hx
  have g2:OwnAt (S'.set b (some (.res,rows.length * sz))) w' .res b cap 1 sz rows cur e0:=⟨.inl rfl,g.heap,g.le,g.max,g.size,g.each,by rw [S'.set_at];rfl,fun k r j d hk hd=>by
   obtain ⟨u,u1,u2,u3⟩:=g.cells k r j d hk hd
   exact ⟨u,u1,u2,u3.trans t2⟩⟩
  exact ⟨_,_,he,w2,ht.trans t2,.fz g2.fz⟩
theorem Fz.len {lim:Nat→Option Nat} {v:Value} {m sz:Nat} (h:Fz lim w v (.sl m sz rows)):rows.length≤9223372036854775807:=by
 cases h with
 |slNil=>simp
 |slE=>simp
 |sl cv hc hm=>exact Nat.le_trans hc hm
theorem Rep.len {S:Sig} {p:Place} {v:Value} {m sz:Nat} (h:Rep S w p v (.sl m sz rows)):rows.length≤9223372036854775807:=by
 cases h with
 |fz h=>exact h.len
 |own g=>exact Nat.le_trans g.le g.max
theorem gU {f:Nat} [hen:Enters P f] {d:D} (i:Nat) {m sz:Nat} (hi:args[i]?=some (.sl m sz rows)) (hc:d.calm=true) (h:rows.length≤9223372036854775807→Sem P f args d):Sem P f args d:=
 ⟨hen,hc,fun S w vs hw hl hr=>by
  have hlt:i < vs.length:=by rw [hl];exact (bC hi)
  exact (h (hr i _ _ hi (List.getElem?_eq_getElem hlt)).len).2.2 S w vs hw hl hr⟩
theorem xN {f:Nat} [hen:Enters P f] {d:D} (i j:Nat) {m sz:Nat} {cs:List D} (hi:args[i]?=some (.agg cs)) (hj:cs[j]?=some (.sl m sz rows)) (hc:d.calm=true) (h:rows.length≤9223372036854775807→Sem P f args d):Sem P f args d:=
 ⟨hen,hc,fun S w vs hw hl hr=>by
  have hlt:i < vs.length:=by rw [hl];exact (bC hi)
  obtain ⟨us,_,h2,_,h4⟩:=(hr i _ _ hi (List.getElem?_eq_getElem hlt)).agg_inv
  have hlj:j < us.length:=by rw [h2];exact (bC hj)
  exact (h (h4 j _ _ hj (List.getElem?_eq_getElem hlj)).len).2.2 S w vs hw hl hr⟩
end Go.Proofs.YtnjgoldinaffgaaGreatDoor
namespace Go.Proofs.YtnjgoldinaffgaaGreatDoor
set_option linter.unusedSimpArgs false
set_option linter.unusedVariables false
open Go.RowKit
section
variable {c:UInt8}
def aF (c:UInt8):List UInt8→List (List UInt8)
 |[] => [[]]
 |b::r=>if b=c then []::aF c r else match aF c r with
  |[] => [[b]]
  |h::t=>(b::h)::t
def yR (c:UInt8):List (List UInt8)→List UInt8
 |[] => []
 |[a]=>a
 |a::b::t=>a++c::yR c (b::t)
theorem iH:∀ {s:List UInt8},c ∉ s→aF c s = [s]
 |[],_=>rfl
 |b::r,h=>by
  simp only [List.mem_cons,not_or] at h
  rw [aF,if_neg (Ne.symm h.1),iH h.2]
theorem zA4:∀ {a:List UInt8} (r:List UInt8),c ∉ a→aF c (a++c::r)=a::aF c r
 |[],r,_=>by rw [List.nil_append,aF,if_pos rfl]
 |b::a,r,h=>by
  simp only [List.mem_cons,not_or] at h
  rw [List.cons_append,aF,if_neg (Ne.symm h.1),zA4 r h.2]
theorem fZ:∀ s,aF c s ≠ []
 |[]=>by simp [aF]
 |b::r=>by
  rw [aF]
  split
  ·simp
  ·split<;>simp
theorem zEY (a:List UInt8) {l:List (List UInt8)} (h:l ≠ []):yR c (a::l)=a++c::yR c l:=by
 cases l with
 |nil=>exact absurd rfl h
 |cons b t=>rfl
theorem vM:∀ s,yR c (aF c s)=s
 |[]=>rfl
 |b::r=>by
  have ih:=vM r
  rw [aF]
  split
  ·rename_i h
   rw [zEY _ (fZ r),ih,h]
   rfl
  ·cases hw:aF c r with
   |nil=>exact absurd hw (fZ r)
   |cons h t=>
    rw [hw] at ih
    simp only
    cases t with
    |nil=>simp only [yR] at ih ⊢;rw [ih]
    |cons d t=>simp only [yR,List.cons_append] at ih ⊢;rw [ih]
theorem tM:∀ {s w:List UInt8},w ∈ aF c s→c ∉ w
 |[],w,h=>by simp [aF] at h;subst h;simp
 |b::r,w,h=>by
  rw [aF] at h
  split at h
  ·rcases List.mem_cons.1 h with rfl|h
   ·simp
   ·exact tM h
  ·rename_i hb
   cases hw:aF c r with
   |nil=>exact absurd hw (fZ r)
   |cons x t=>
    have ih:∀ y ∈ aF c r,c ∉ y:=fun y hy=>tM hy
    rw [hw] at h ih
    rcases List.mem_cons.1 h with rfl|h
    ·simp only [List.mem_cons,not_or]
     exact ⟨Ne.symm hb,ih x (by simp)⟩
    ·exact ih w (by simp [h])
theorem zN0 {s:List UInt8} {i:Nat} (h:Lib.indexByte s c=i):c ∉ s.take i∧s=s.take i++c::s.drop (i+1):=by
 obtain ⟨h1,h2⟩:=Lib.indexByte_some h
 refine ⟨fun hm => ?_,?_⟩
 ·obtain ⟨k,hk⟩:=List.mem_iff_getElem?.1 hm
  rw [List.getElem?_take] at hk
  split at hk
  ·rename_i hlt
   exact h2 k hlt hk
  ·cases hk
 ·obtain ⟨hlt,he⟩:=List.getElem?_eq_some_iff.1 h1
  have:=List.drop_eq_getElem_cons hlt
  rw [he] at this
  rw [← this,List.take_append_drop]
theorem rZ:∀ (k:Nat) (s:List UInt8),s.count c≤k→Lib.splitK [c] 0 k s=aF c s
 |0,s,h=>by
  rw [Lib.splitK,iH]
  intro hm
  have:=List.count_pos_iff.2 hm
  omega
 |k+1,s,h=>by
  rw [Lib.splitK,Lib.index_one]
  split
  ·rename_i he
   rw [iH]
   intro hm
   obtain ⟨j,hj⟩:=List.mem_iff_getElem?.1 hm
   exact Lib.indexByte_none (beq_iff_eq.1 he) j hj
  ·rename_i he
   have hge:=Lib.indexByte_ge s c
   obtain ⟨i,hi⟩:∃ i:Nat,Lib.indexByte s c=i:=⟨(Lib.indexByte s c).toNat,by
    have:Lib.indexByte s c ≠ -1:=fun e=>he (beq_iff_eq.2 e)
    omega⟩
   obtain ⟨h1,h2⟩:=zN0 hi
   rw [hi]
   simp only [Int.toNat_natCast,Nat.add_zero,List.length_cons,List.length_nil,Nat.zero_add]
   rw [rZ k (s.drop (i+1)) (by rw [h2,List.count_append,List.count_cons_self] at h;omega)]
   conv=>rhs;rw [h2]
   rw [zA4 _ h1]
theorem zCu (s:ByteArray):(Lib.splitB ⟨#[c]⟩ 0 (Lib.countB s ⟨#[c]⟩) s).map (·.data.toList)=aF c s.data.toList:=by
 rw [Lib.splitB_data]
 exact rZ _ _ (by rw [show Lib.countB s ⟨#[c]⟩=s.data.toList.count c from Lib.count_one c _];exact Nat.le_refl _)
theorem iI:∀ s:List UInt8,(aF c s).length≤s.length+1
 |[]=>by simp [aF]
 |b::r=>by
  have ih:=iI r
  rw [aF]
  split
  ·simp only [List.length_cons];omega
  ·cases hw:aF c r with
   |nil=>simp
   |cons h t=>
    rw [hw] at ih
    simp only [List.length_cons] at ih ⊢
    omega
end
variable {S S':Sig} {b:Nat} {cur cur':Array Value} {e:TypeId} {w w':World}
def Mine (S:Sig) (w:World) (b:Nat):Prop:=b < w.heap.size→∃ p l,S.own b=some (p,l)∧p.r ≠ 0
theorem Mine.of (t:Trans S w S' w') {p:Place} {l:Nat} (ho:S'.own b=some (p,l)) (hp:p.r ≠ 0):Mine S w b:=fun hb=>by
 cases h:S.own b with
 |none=>
  have:=(t.free b hb h).2
  rw [ho] at this;cases this
 |some x=>
  obtain ⟨q,k⟩:=x
  refine ⟨q,k,rfl,fun hq => ?_⟩
  have:=(t.foreign b q k hb h hq).2
  rw [ho] at this
  cases this
  exact hp hq
theorem Mine.back (t:Trans S w S' w') (h:Mine S' w' b):Mine S w b:=fun hb=>by
 obtain ⟨p,l,h1,h2⟩:=h (Nat.lt_of_lt_of_le hb t.size)
 exact Mine.of t h1 h2 hb
theorem Mine.new (h:w.heap.size≤w'.heap.size):Mine S w w'.heap.size:=fun hb=>by omega
theorem Trans.name (t:Trans S w S' w') (hm:Mine S w b) {q q':Place} {m:Nat} (ho:S'.own b=some (q,0)):Trans S w (S'.set b (some (q',m))) w':=by
 refine ⟨t.os,t.tape,t.output,t.size,fun b' hb hn => ?_,fun b' p l hb hs hr => ?_,fun b' p l hb hs => ?_,t.loc2⟩
 ·have hne:b' ≠ b:=fun e=>by
   subst e
   obtain ⟨p,l,h1,_⟩:=hm hb
   rw [hn] at h1;cases h1
  rw [S'.set_ne _ hne]
  exact t.free b' hb hn
 ·have hne:b' ≠ b:=fun e=>by
   subst e
   obtain ⟨p',l',h1,h2⟩:=hm hb
   rw [hs] at h1;cases h1
   exact h2 hr
  rw [S'.set_ne _ hne]
  exact t.foreign b' p l hb hs hr
 ·obtain ⟨h1,h2⟩:=t.held b' p l hb hs
  refine ⟨h1,fun x hx => ?_⟩
  by_cases hne:b'=b
  ·subst hne
   have:=h2 _ ho
   omega
  ·rw [S'.set_ne _ hne] at hx
   exact h2 x hx
structure Writes (w w':World) (b:Nat) (cur cur':Array Value) (e:TypeId):Prop where
 os:w'.os=w.os
 tape:w'.tape=w.tape
 output:w'.output=w.output
 size:w'.heap.size=w.heap.size
 other:∀ b',b' ≠ b→w'.heap[b']?=w.heap[b']?
 was:w.heap[b]?=some (.cells cur e (0,0))
 now:w'.heap[b]?=some (.cells cur' e (0,0))
 same:cur'.size=cur.size
theorem Trans.write {w1 w2:World} (t:Trans S w S' w1) (hm:Mine S w b) {q:Place} (ho:S'.own b=some (q,0)) (h:Writes w1 w2 b cur cur' e):Trans S w S' w2:=by
 refine ⟨h.os.trans t.os,h.tape.trans t.tape,h.output.trans t.output,by rw [h.size];exact t.size,fun b' hb hn => ?_,fun b' p l hb hs hr => ?_,fun b' p l hb hs => ?_,t.loc2⟩
 ·have hne:b' ≠ b:=fun e=>by
   subst e
   obtain ⟨p,l,h1,_⟩:=hm hb
   rw [hn] at h1;cases h1
  rw [h.other b' hne]
  exact t.free b' hb hn
 ·have hne:b' ≠ b:=fun e=>by
   subst e
   obtain ⟨p',l',h1,h2⟩:=hm hb
   rw [hs] at h1;cases h1
   exact h2 hr
  rw [h.other b' hne]
  exact t.foreign b' p l hb hs hr
 ·obtain ⟨h1,h2⟩:=t.held b' p l hb hs
  refine ⟨?_,h2⟩
  by_cases hne:b'=b
  ·subst hne
   have hl:=h2 _ ho
   intro c0 e0 fz hc
   obtain ⟨c1,k1,k2,_⟩:=h1 c0 e0 fz hc
   rw [h.was] at k1
   cases k1
   exact ⟨cur',h.now,h.same.trans k2,fun off ho=>by omega⟩
  ·rw [h.other b' hne]
   exact h1
theorem WF.write (hw:WF S w) {q:Place} (ho:S.own b=some (q,0)) (h:Writes w w' b cur cur' e):WF S w':=
 ⟨fun b' x hx=>by rw [h.size];exact hw b' x hx,hw.gl.keep fun b' _ hn=>⟨h.other b' (fun e=>by subst e;rw [ho] at hn;cases hn),hn⟩⟩
theorem Fz.write {q:Place} (ho:S.own b=some (q,0)) (h:Writes w w' b cur cur' e) {v:Value} {d:D} (hf:Fz S.lim w v d):Fz S.lim w' v d:=by
 have hl:S.lim=(S.set b (some (.res,0))).lim:=by
  funext b'
  by_cases hb:b'=b
  ·subst hb;simp [Sig.lim,S.set_at,ho]
  ·simp [Sig.lim,S.set_ne _ hb]
 have hr:(S.set b (some (.res,0))).own b=some (.res,0):=by rw [S.set_at]
 have t:Trans (S.set b (some (.res,0))) w (S.set b (some (.res,0))) w':=
  (Trans.refl _ w).write (fun _=>⟨_,_,hr,by simp [Place.res]⟩) hr h
 rw [hl] at hf ⊢
 exact hf.trans t
theorem WF.name (hw:WF S w) {x y:Place × Nat} (ho:S.own b=some x):WF (S.set b (some y)) w:=
 ⟨fun b' z hz=>by
  by_cases hb:b'=b
  ·subst hb;exact hw b' x ho
  ·rw [S.set_ne _ hb] at hz;exact hw b' z hz,hw.gl.keep fun b' _ hn=>⟨rfl,by
  by_cases hb:b'=b
  ·subst hb;rw [ho] at hn;cases hn
  ·rw [S.set_ne _ hb];exact hn⟩⟩
theorem PT.name (hw:WF S w) (h:PT S w S' w') {x:Place × Nat} (h0:w.heap.size≤b) (h1:b < w'.heap.size):PT S w (S'.set b (some x)) w':=
 ⟨h.ext,fun b' hb=>(S'.set_ne _ (by omega)).trans (h.own b' hb),h.loc,fun b' y hy=>by
  by_cases hb:b'=b
  ·subst hb;exact h1
  ·rw [S'.set_ne _ hb] at hy;exact h.wf b' y hy,hw.gl.keep fun b' hb hn=>⟨h.ext.block hb,by rw [S'.set_ne _ (by omega),h.own b' hb];exact hn⟩⟩
theorem PT.write {w1 w2:World} (hw:WF S w) (h:PT S w S' w1) (h0:w.heap.size≤b) (hwr:Writes w1 w2 b cur cur' e):PT S w S' w2:=
 ⟨⟨hwr.os.trans h.ext.os,hwr.tape.trans h.ext.tape,hwr.output.trans h.ext.output,by rw [hwr.size];exact h.ext.sizeOf,fun b' hb=>(hwr.other b' (by omega)).trans (h.ext.block hb)⟩,h.own,h.loc,fun b' y hy=>by rw [hwr.size];exact h.wf b' y hy,hw.gl.keep fun b' hb hn=>⟨(hwr.other b' (by omega)).trans (h.ext.block hb),by rw [h.own b' hb];exact hn⟩⟩
theorem Writes.row (hh:w.heap[b]?=some (.cells cur e (0,0))) (cur':Array Value) (hs:cur'.size=cur.size):Writes w (w.setRow b cur') b cur cur' e:=
 ⟨rfl,rfl,rfl,by simp [World.setRow],fun b' hb=>setRow_other w b b' _ hb,hh,setRow_heap w b cur _ e (0,0) hh,hs⟩
end Go.Proofs.YtnjgoldinaffgaaGreatDoor
