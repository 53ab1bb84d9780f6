/- Regions whose order Go leaves open: the proof. -/
import Derived.Test.YtnjgoldinaffgaaGreatDoorY7
namespace Go.Proofs.YtnjgoldinaffgaaGreatDoor
set_option linter.unusedSimpArgs false
set_option linter.unusedVariables false
open Go.RowKit
variable {Q:Exit→Act→World→Prop} {S S':Sig} {a a0:Act} {c cs n0 off u:Nat} {fs:List (World→Prop)} {l:List Oper} {o:Oper} {w w' w0:World}
def NewB (S:Sig) (n0:Nat) (cs:List D) (v:Value) (w:World):Prop:=∃ (b:Nat) (e:TypeId) (zc:List Value),v=.pointer (some ⟨b,0,none⟩)∧n0≤b∧S.own b=none∧w.heap[b]?=some (.cells zc.toArray e (0,0))∧cs=cX zc∧zc.all Value.oneCell'=true
def NewS (S:Sig) (n0 sz n:Nat) (z:List D) (v:Value) (w:World):Prop:=∃ (b cap:Nat) (cur:Array Value) (e:TypeId),v=.slice (some ⟨b,0,none⟩) n cap∧n0≤b∧S.own b=none∧w.heap[b]?=some (.cells cur e (0,0))∧1≤n∧n≤cap∧cap≤maxLen∧cur.size=cap * sz∧z.length=sz∧
 ∀ (k j:Nat) (d:D),k < n→z[j]?=some d→∃ u,cur[k * sz+j]?=some u∧u.oneCell'=true∧d.flat1=true∧Fz S.lim w u d
def NewA (S:Sig) (n0:Nat) (cs:List D) (off sz n:Nat) (z:List D) (v:Value) (w:World):Prop:=∃ (us:List Value) (u:Value),v=.agg us.toArray∧us.length=cs.length∧(∀ x:Value,x ∈ us→x.oneCell'=true)∧us[off]?=some u∧NewS S n0 sz n z u w∧
 ∀ (j:Nat) (d:D) (x:Value),j ≠ off→cs[j]?=some d→us[j]?=some x→d.one=true∧Fz S.lim w x d
theorem mG {lim lim':Nat→Option Nat} {u:Value} {d:D} (h:d.flat1=true) (hf:Fz lim w u d):Fz lim' w' u d:=by
 cases d with
 |int k n=>cases hf;exact .int k n
 |bool b=>cases hf;exact .bool b
 |str s=>cases hf;exact .str s
 |_=>cases h
theorem NewS.keep {sz n:Nat} {z:List D} {v:Value} (hk:∀ b,b < w.heap.size→S.own b=none→w'.heap[b]?=w.heap[b]?) (h:NewS S n0 sz n z v w):NewS S n0 sz n z v w':=by
 obtain ⟨b,cap,cur,e,h1,h2,h3,h4,h5,h6,h7,h8,h9,h10⟩:=h
 refine ⟨b,cap,cur,e,h1,h2,h3,(hk b (Array.getElem?_eq_some_iff.1 h4).1 h3).trans h4,h5,h6,h7,h8,h9,fun k j d g1 g2 => ?_⟩
 obtain ⟨u,u1,u2,u3,u4⟩:=h10 k j d g1 g2
 exact ⟨u,u1,u2,u3,mG u3 u4⟩
theorem NewA.keep {cs:List D} {sz n:Nat} {z:List D} {v:Value} (hk:∀ b,b < w.heap.size→S.own b=none→w'.heap[b]?=w.heap[b]?) (hf:∀ {x:Value} {d:D},Fz S.lim w x d→Fz S.lim w' x d) (h:NewA S n0 cs off sz n z v w):NewA S n0 cs off sz n z v w':=by
 obtain ⟨us,u,h1,h2,h3,h4,h5,h6⟩:=h
 exact ⟨us,u,h1,h2,h3,h4,h5.keep hk,fun j d x g1 g2 g3=>⟨(h6 j d x g1 g2 g3).1,hf (h6 j d x g1 g2 g3).2⟩⟩
def Fact (S:Sig) (n0:Nat) (a0:Act) (d:D) (v:Value) (w:World):Prop:=WF S w∧match d with
 |.al u=>v=a0.eval (.tmp u)
 |.ref u off=>v=.pointer (some ⟨S.loc (u+2),off,none⟩)
 |.gref c u off=>v=if c=true then .pointer (some ⟨S.loc (u+2),off,none⟩) else undef
 |.obj cs=>NewB S n0 cs v w
 |.alc u off=>w.cell? ⟨S.loc (u+2),off,none⟩=some v
 |.el u off sz k j=>∃ s,w.cell? ⟨S.loc (u+2),off,none⟩=some s∧zAe s sz k j v
 |.nsl sz n z=>NewS S n0 sz n z v w
 |.nagg cs off sz n z=>NewA S n0 cs off sz n z v w
 |d=>Fz S.lim w v d
theorem NewB.mono {cs:List D} {v:Value} (hx:Ext w w') (h:NewB S n0 cs v w):NewB S n0 cs v w':=by
 obtain ⟨b,e,zc,h1,h2,h3,h4,h5⟩:=h
 have hb:b < w.heap.size:=(Array.getElem?_eq_some_iff.1 h4).1
 exact ⟨b,e,zc,h1,h2,h3,(hx.block hb).trans h4,h5⟩
theorem zDN {b o:Nat} {v:Value} (hx:Ext w w') (h:w.cell? ⟨b,o,none⟩=some v):w'.cell? ⟨b,o,none⟩=some v:=by
 rw [World.cell?_of_block (a:=⟨b,o,none⟩) (w:=w) (hx.block (tH h))]
 exact h
theorem Fact.mono {d:D} {v:Value} (hx:Ext w w') (h:Fact S n0 a0 d v w):Fact S n0 a0 d v w':=by
 have hp:=PT.ext' h.1 hx
 refine ⟨hp.wf,?_⟩
 have h2:=h.2
 cases d with
 |al u=>exact h2
 |ref u off=>exact h2
 |gref c u off=>exact h2
 |obj cs=>exact NewB.mono hx h2
 |alc u off=>exact zDN hx h2
 |el u off sz k j=>
  obtain ⟨s,h3,h4⟩:=h2
  exact ⟨s,zDN hx h3,h4⟩
 |nsl sz n z=>exact NewS.keep (fun b hb _=>hx.block hb) h2
 |nagg cs off sz n z=>exact NewA.keep (fun b hb _=>hx.block hb) (fun h=>h.trans hp.trans) h2
 |_=>exact h2.trans hp.trans
def eD (S:Sig) (n0:Nat) (a0:Act) (d:D):Spec:=⟨fun u=>u.2.2,fun u w=>Fact S n0 a0 d u.2.2 w,fun _ _ _ hx h=>h.mono hx⟩
structure Rw (S:Sig) (u:Nat) (w w':World):Prop where
 os:w'.os=w.os
 tape:w'.tape=w.tape
 output:w'.output=w.output
 size:w.heap.size≤w'.heap.size
 same:∀ b,b < w.heap.size→gR u (S.own b)=false→w'.heap[b]?=w.heap[b]?
 held:∀ b p l,S.own b=some (p,l)→p.r=u+2→Keeps l w.heap[b]? w'.heap[b]?
theorem Rw.ext (h:Ext w w'):Rw S u w w':=by
 refine ⟨h.os,h.tape,h.output,h.sizeOf,fun b hb _=>h.block hb,fun b p l _ _ => ?_⟩
 by_cases hb:b < w.heap.size
 ·exact Keeps.of_eq (h.block hb)
 ·intro cur e fz hh
  rw [Array.getElem?_eq_none (by omega)] at hh
  cases hh
theorem Rw.comp {a b c:World} (h:Rw S u a b) (k:Rw S u b c):Rw S u a c:=
 ⟨k.os.trans h.os,k.tape.trans h.tape,k.output.trans h.output,Nat.le_trans h.size k.size,fun i hi hn=>(k.same i (Nat.lt_of_lt_of_le hi h.size) hn).trans (h.same i hi hn),fun i p l hl hr=>(h.held i p l hl hr).trans (k.held i p l hl hr) (Nat.le_refl _)⟩
theorem Rw.wf (h:Rw S u w w') (hw:WF S w):WF S w':=⟨fun b x hx=>Nat.lt_of_lt_of_le (hw b x hx) h.size,hw.gl.keep fun b hb hn=>⟨h.same b hb (by rw [hn];rfl),hn⟩⟩
theorem Rw.to (h:Rw S u w w') (hS:S'=S∨S'=S.drop u):Trans S w S' w':=by
 refine ⟨h.os,h.tape,h.output,h.size,fun b hb hn => ?_,fun b p l hb hs hd => ?_,fun b p l hb hs => ?_,by rcases hS with rfl|rfl<;>rfl⟩
 ·have hno:gR u (S.own b)=false:=by rw [hn];rfl
  refine ⟨h.same b hb hno,?_⟩
  rcases hS with rfl|rfl
  ·exact hn
  ·rw [pA hno,hn]
 ·have hno:gR u (S.own b)=false:=by rw [hs];simp [gR,hd]
  refine ⟨h.same b hb hno,?_⟩
  rcases hS with rfl|rfl
  ·exact hs
  ·rw [pA hno,hs]
 ·refine ⟨?_,fun x hx => ?_⟩
  ·by_cases hno:gR u (S.own b)=false
   ·exact Keeps.of_eq (h.same b hb hno)
   ·have hq:p.r=u+2:=by rw [hs] at hno;simpa [gR] using hno
    exact h.held b p l hs hq
  ·have:S.own b=some x:=by
    rcases hS with rfl|rfl
    ·exact hx
    ·exact (gO hx).1
   rw [hs] at this
   cases this
   exact Nat.le_refl _
theorem Rw.rep (h:Rw S u w w') (hw:WF S w) (hS:S'=S∨S'=S.drop u) {fr:List D} (hno:∀ cs,fr[u]? ≠ some (.obj cs)) {i:Nat} (hi:i ≠ u) {v:Value} {e:D} (hr:Rep S w (.slot i) v e) (hf:bM fr e):Rep S' w' (.slot i) v e:=by
 have old:∀ b q l,S.own b=some (q,l)→q.r ≠ u+2→w'.heap[b]?=w.heap[b]?∧S'.own b=some (q,l):=fun b q l hs hq=>by
  have hno:gR u (S.own b)=false:=by rw [hs];simp [gR,hq]
  refine ⟨h.same b (hw _ _ hs) hno,?_⟩
  rcases hS with rfl|rfl
  ·exact hs
  ·rw [pA hno,hs]
 have hloc:S'.loc=S.loc:=by rcases hS with rfl|rfl<;>rfl
 refine hr.trans hw (h.to hS) (by rw [hloc]) (fun b q l hs hu=>old b q l hs fun e => ?_) (fun _=>by rw [hloc]) fun t hm ho=>⟨by rw [hloc],(old _ _ _ ho fun e => ?_).2⟩
 ·have:=hu.1
  simp only [Place.slot] at this
  omega
 ·obtain ⟨cs,hc⟩:=hf t hm
  simp only [Place.slot] at e
  have:t=u:=by omega
  subst this
  exact hno cs hc
def eY (l:Array Oper) (c:Nat) (i:Nat):Bool:=decide (i=c) || jY l l.size i c
def zBV (l:Array Oper) (c:Nat):Bool:=(List.range l.size).all fun i=>match l[i]? with
 |some o=>o.after.all fun e => !Region.binds .any e || !eY l c e.on || (eY l c i && !decide (i=c))
 |none=>true
def zAg (S:Sig) (l:Array Oper) (c u:Nat):Ways:=⟨Rw S u,c,eY l c,fun _ _ h=>Rw.ext h,fun _ _ _ h k=>h.comp k⟩
def sg (S:Sig) (l:Array Oper) (c u i:Nat):Sig:=if eY l c i=true then S.drop u else S
theorem zDl {l:Array Oper} {i:Nat} (h:zBV l c=true) (ho:l[i]?=some o) {e:Edge} (he:e ∈ o.after.toList) (hb:Region.binds .any e=true) (hl:eY l c e.on=true):eY l c i=true∧i ≠ c:=by
 have h1:=List.all_eq_true.1 h i (by simpa using (Array.getElem?_eq_some_iff.1 ho).1)
 simp only [ho] at h1
 have h2:=Array.all_eq_true'.1 h1 e (by simpa using he)
 simpa [hb,hl] using h2
def zHH (fr0:List D) (cs u:Nat):Prop:=(u=cs∧∃ e,fr0[u]?=some e)∨∃ d',fr0[u]?=some d'∧d'.owns=true
def uN (fr0:List D) (cs:Nat):D→Prop
 |.al u=>zHH fr0 cs u
 |.ref u _ | .gref _ u _ | .alc u _ | .el u _ _ _ _=>∃ c,fr0[u]?=some (.obj c)
 |_=>True
structure QInv (S:Sig) (l:Array Oper) (c cs n0:Nat) (a0:Act) (fr0:List D) (pre:List Oper) (fs:List (World→Prop)) (a:Act) (fr:List D):Prop where
 size:a.tmps.size=fr.length
 len:fr.length=fr0.length
 defers:a.defers = []
 fslen:fs.length=pre.length
 slot:∀ (t:Nat) (d:D),fr[t]?=some d→(a.tmps[t]?=a0.tmps[t]?∧fr0[t]?=some d)∨
  ∃ (k:Nat) (o:Oper) (v:Value),pre[k]?=some o∧o.dst=some t∧a.tmps[t]?=some v∧fs[k]?=some (Fact (sg S l c cs k) n0 a0 d v)∧uN fr0 cs d
 own:∀ (u:Nat) (d:D),fr0[u]?=some d→d.owns=true→fr[u]?=some d∧a.tmps[u]?=a0.tmps[u]?
 keep:a.tmps[cs]?=a0.tmps[cs]?
theorem QInv.slot' {l:Array Oper} {fr0:List D} {pre:List Oper} {fr:List D} (h:QInv S l c cs n0 a0 fr0 pre fs a fr) (t:Nat) (d:D) (hd:fr[t]?=some d):(a.tmps[t]?=a0.tmps[t]?∧fr0[t]?=some d)∨
  (∃ (k:Nat) (o:Oper) (v:Value),pre[k]?=some o∧o.dst=some t∧a.tmps[t]?=some v∧fs[k]?=some (Fact (sg S l c cs k) n0 a0 d v)∧uN fr0 cs d)∧∀ x,d=.obj x→∀ c',fr0[t]? ≠ some (.obj c'):=by
 rcases h.slot t d hd with h1|h1
 ·exact .inl h1
 ·by_cases hob:∃ c',fr0[t]?=some (.obj c')
  ·obtain ⟨c',hc'⟩:=hob
   obtain ⟨g1,g2⟩:=h.own t _ hc' rfl
   rw [hd] at g1
   cases g1
   exact .inl ⟨g2,hc'⟩
  ·exact .inr ⟨h1,fun x _ c' e=>hob ⟨c',e⟩⟩
structure QC (S:Sig) (l:List Oper) (c cs:Nat) (a0:Act) (frF fr0:List D) (w0:World):Prop where
 hF:FR S w0 a0 frF
 hX:fr0=frF.set cs .any
 hno:∀ x,frF[cs]? ≠ some (.obj x)
 hok:jO l.toArray=true
 hlate:zBV l.toArray c=true
 nonm:∀ (i:Nat) (d:D),frF[i]?=some d→d.nm3=false
theorem QC.isNm {frF fr0:List D} (h:QC S l c cs a0 frF fr0 w0) {i:Nat} {d:D} (hd:frF[i]?=some d) (hn:∀ x,d ≠ .al x):d.isNm=false:=by
 have:=h.nonm i d hd
 cases d<;>first|rfl|(cases this;done)|exact absurd rfl (hn _)
theorem QC.other {frF fr0:List D} (h:QC S l c cs a0 frF fr0 w0) {i:Nat} (hi:i ≠ cs):fr0[i]?=frF[i]?:=by rw [h.hX,List.getElem?_set_ne (Ne.symm hi)]
theorem QC.at_cs {frF fr0:List D} (h:QC S l c cs a0 frF fr0 w0) {d:D} (hd:fr0[cs]?=some d):d=.any:=by
 rw [h.hX] at hd
 have hlt:=(bC hd)
 rw [List.getElem?_set_self (by simpa using hlt)] at hd
 cases hd
 rfl
theorem QC.hold {frF fr0:List D} (h:QC S l c cs a0 frF fr0 w0) (hR:Rw S cs w0 w) (hS:S'=S∨S'=S.drop cs) {i:Nat} {d:D} {v:Value} (hd:fr0[i]?=some d) (hv:a0.tmps[i]?=some v) (hn:∀ x,d ≠ .al x):Rep S' w (.slot i) v d:=by
 by_cases hi:i=cs
 ·subst hi
  obtain rfl:=h.at_cs hd
  exact .fz (.any _)
 ·rw [h.other hi] at hd
  obtain ⟨h1,h2⟩:=(h.hF.slot i d v hd hv).rep (h.isNm hd hn)
  exact hR.rep h.hF.wf hS h.hno hi h1 h2
theorem QC.wf {frF fr0:List D} (h:QC S l c cs a0 frF fr0 w0) (hR:Rw S cs w0 w) (hS:S'=S∨S'=S.drop cs):WF S' w:=by
 have:=hR.wf h.hF.wf
 rcases hS with rfl|rfl
 ·exact this
 ·exact zF8 this
theorem zPb {l:Array Oper} {i:Nat}:sg S l c cs i=S∨sg S l c cs i=S.drop cs:=by
 unfold sg
 split
 ·exact .inr rfl
 ·exact .inl rfl
theorem zLU {l:Array Oper} {k:Nat} (hS:S'=S∨S'=S.drop cs) (hl:eY l c k=true→S'=S.drop cs) {v:Value} {d:D} (h:Fz (sg S l c cs k).lim w v d):Fz S'.lim w v d:=by
 unfold sg at h
 split at h
 ·rename_i hk
  rw [hl hk]
  exact h
 ·rcases hS with rfl|rfl
  ·exact h
  ·exact zKt h
theorem lJ {l:Array Oper} {k:Nat}:(sg S l c cs k).loc=S.loc:=by
 unfold sg
 split<;>rfl
theorem QC.refOwn {frF fr0:List D} (h:QC S l c cs a0 frF fr0 w0) (hR:Rw S cs w0 w) (hS:S'=S∨S'=S.drop cs) {ds:List D} (hd:fr0[u]?=some (.obj ds)):S'.own (S'.loc (u+2))=some (.slot u,0)∧S'.loc=S.loc:=by
 have hlt:u < a0.tmps.size:=by
  rw [h.hF.size]
  have:=(bC hd)
  rw [h.hX] at this
  simpa using this
 have hv:a0.tmps[u]?=some a0.tmps[u]:=by simp [hlt]
 have hr:=h.hold hR hS hd hv (fun x e=>by cases e)
 obtain ⟨b,cur,e,_,hb,hloc,_⟩:=hr.obj_inv
 exact ⟨by rw [hloc];exact hb,by rcases hS with rfl|rfl<;>rfl⟩
theorem QC.objVal {frF fr0:List D} (h:QC S l c cs a0 frF fr0 w0) {ds:List D} (hd:fr0[u]?=some (.obj ds)):a0.tmps[u]?=some (.pointer (some ⟨S.loc (u+2),0,none⟩)):=by
 have huc:u ≠ cs:=fun e=>by subst e;have:=h.at_cs hd;cases this
 rw [h.other huc] at hd
 obtain ⟨v,hv,hs⟩:=h.hF.at hd
 obtain ⟨b,cur,e,rfl,_,hloc,_⟩:=hs.1.obj_inv
 rw [hv,hloc]
section
variable {P:Program} {T:Nat→Option TI} {Z:Nat→Option (List Value)}
theorem uG {x:Operand} (hx:∀ t,x ≠ .tmp t):∃ q,Rep S w q (a.eval x) (bD [] x):=by
 cases x with
 |tmp t=>exact absurd rfl (hx t)
 |const v=>
  unfold bD Act.eval
  cases v with
  |agg cs=>exact ⟨.dead,.fz (.any _)⟩
  |_=>exact ⟨.dead,.fz (mB _ (by intro cs hc;cases hc))⟩
 |global g=>exact ⟨.dead,.fz (.any _)⟩
 |func f=>exact ⟨.dead,.fz (.fn [] rfl (fun j d v hd=>by simp at hd))⟩
theorem cY {t:Nat} {v:Value} (h:a.tmps[t]?=some v):a.eval (.tmp t)=v:=by simp [Act.eval,Array.getD_eq_getD_getElem?,h]
theorem QInv.eval {frF fr0 fr:List D} {pre:List Oper} (h:QInv S l.toArray c cs n0 a0 fr0 pre fs a fr) (hC:QC S l c cs a0 frF fr0 w0) (hpre:∀ (k:Nat) (p:Oper),pre[k]?=some p→l[k]?=some p) (ho:l[pre.length]?=some o)
  (hR:Rw S cs w0 w) (hS:S'=S∨S'=S.drop cs) (hSd:∀ e ∈ o.after.toList,Region.binds .any e=true→eY l.toArray c e.on=true→S'=S.drop cs)
  (hf:∀ e ∈ o.after.toList,Region.binds .any e=true→(fs.getD e.on (fun _=>True)) w) {x:Operand} (hm:∀ t,x=.tmp t→t ∈ o.looksAt l.toArray):∃ q,Rep S' w q (a.eval x) (bX fr0 fr x):=by
 have hF:=hC.hF
 have hok:=hC.hok
 cases x with
 |tmp t=>
  unfold bX
  simp only
  cases hd:fr[t]? with
  |none=>exact ⟨.dead,.fz (.any _)⟩
  |some d=>
   rcases h.slot' t d hd with ⟨h1,h2⟩|⟨⟨k,p,v,k1,k2,k3,k4,k5⟩,hno⟩
   ·have hlt:t < a0.tmps.size:=by
     rw [hF.size]
     have:=(bC h2)
     rw [hC.hX] at this
     simpa using this
    have hv:a0.tmps[t]?=some a0.tmps[t]:=by simp [hlt]
    generalize a0.tmps[t]=v at hv
    have hav:a.eval (.tmp t)=v:=cY (h1.trans hv)
    rw [hav]
    cases d with
    |al u=>
     have htc:t ≠ cs:=fun e=>by subst e;have:=hC.at_cs h2;cases this
     rw [hC.other htc] at h2
     obtain ⟨g1,d',g2,g3,_⟩:=hF.slot t _ v h2 hv
     simp only
     by_cases huc:u=cs
     ·cases hdu:fr0[u]? with
      |none=>exact ⟨.dead,.fz (.any _)⟩
      |some e=>
       subst huc
       obtain rfl:=hC.at_cs hdu
       exact ⟨.dead,.fz (.any _)⟩
     ·rw [← hC.other huc] at g2
      simp only [g2,Option.getD_some]
      exact ⟨_,hC.hold hR hS g2 g1 (fun x e=>by subst e;simp [D.owns] at g3)⟩
    |obj cs'=>
     simp only [h2]
     exact ⟨.slot t,hC.hold hR hS h2 hv (fun x e=>by cases e)⟩
    |alc u off=>exact ⟨.dead,.fz (.any _)⟩
    |el u off sz k j=>exact ⟨.dead,.fz (.any _)⟩
    |nsl sz n z=>exact ⟨.dead,.fz (.any _)⟩
    |nagg cs' off sz n z=>exact ⟨.dead,.fz (.any _)⟩
    |_=>exact ⟨.slot t,hC.hold hR hS h2 hv (fun x e=>by cases e)⟩
   ·have hkl:k < pre.length:=(bC k1)
    have hpair:=(fJ hok (i:=pre.length) (k:=k) (o:=o) (p:=p) (by simpa using ho) (by simpa using hpre k p k1) (by omega) k2).2 (hm t rfl)
    have hdep:nI o k=true:=by
     rcases hpair with h|h
     ·exact h
     ·obtain ⟨e,he,hb,hek⟩:=cW h
      have:=bY hok (i:=k) (o:=p) (by simpa using hpre k p k1) he hb
      omega
    obtain ⟨e,he,hb,hek⟩:=cW hdep
    have hfact:=hf e (by simpa using he) hb
    rw [hek,List.getD_eq_getElem?_getD,k4] at hfact
    have hav:a.eval (.tmp t)=v:=cY k3
    rw [hav]
    simp only [Option.getD_some] at hfact
    have h2:=hfact.2
    have hsd:eY l.toArray c k=true→S'=S.drop cs:=fun hk=>hSd e (by simpa using he) hb (by rw [hek];exact hk)
    cases d with
    |al u=>
     simp only
     rcases (k5:zHH fr0 cs u) with ⟨rfl,_⟩|⟨d',g2,g3⟩
     ·cases hdu:fr0[u]? with
      |none=>exact ⟨.dead,.fz (.any _)⟩
      |some e=>
       obtain rfl:=hC.at_cs hdu
       exact ⟨.dead,.fz (.any _)⟩
     ·have hlt:u < a0.tmps.size:=by
       rw [hF.size]
       have:=(bC g2)
       rw [hC.hX] at this
       simpa using this
      have hv':a0.tmps[u]?=some a0.tmps[u]:=by simp [hlt]
      simp only at h2
      rw [cY hv'] at h2
      subst h2
      simp only [g2,Option.getD_some]
      exact ⟨_,hC.hold hR hS g2 hv' (fun x e=>by subst e;simp [D.owns] at g3)⟩
    |ref u off=>
     obtain ⟨ds,hc⟩:=(k5:∃ c,fr0[u]?=some (.obj c))
     have hob:=hC.refOwn hR hS hc
     have hl:(sg S l.toArray c cs k).loc=S'.loc:=by rw [lJ,hob.2]
     simp only at h2
     rw [h2,hl]
     exact ⟨.dead,.ref hob.1⟩
    |gref c1 u off=>
     obtain ⟨ds,hc⟩:=(k5:∃ c,fr0[u]?=some (.obj c))
     have hob:=hC.refOwn hR hS hc
     have hl:(sg S l.toArray c cs k).loc=S'.loc:=by rw [lJ,hob.2]
     simp only at h2
     rw [hl] at h2
     exact ⟨.dead,.gref hob.1 h2⟩
    |obj cs'=>
     simp only
     split
     ·rename_i c' hc'
      exact absurd hc' (hno _ rfl c')
     ·exact ⟨.dead,.fz (.any _)⟩
    |alc u off=>exact ⟨.dead,.fz (.any _)⟩
    |el u off sz k j=>exact ⟨.dead,.fz (.any _)⟩
    |nsl sz n z=>exact ⟨.dead,.fz (.any _)⟩
    |nagg cs' off sz n z=>exact ⟨.dead,.fz (.any _)⟩
    |_=>exact ⟨.dead,.fz (zLU hS hsd h2)⟩
 |const v=>exact uG (fun t e=>by cases e)
 |global g=>exact uG (fun t e=>by cases e)
 |func f=>exact uG (fun t e=>by cases e)
theorem zC {S:Sig} {w:World} {a:Act} {fr0 fr:List D}:∀ (xs:List Operand),(∀ x ∈ xs,∃ q,Rep S w q (a.eval x) (bX fr0 fr x))→holds (gds (bX fr0 fr) xs)→∀ x ∈ xs,∃ q,Rep S w q (a.eval x) (lS (bX fr0 fr x))
 |[],_,_,x,hx=>by cases hx
 |y::xs,hr,hg,x,hx=>by
  simp only [gds] at hg
  have key:holds (gds (bX fr0 fr) xs)∧∃ q,Rep S w q (a.eval y) (lS (bX fr0 fr y)):=by
   obtain ⟨q,hq⟩:=hr y (by simp)
   split at hg
   ·rename_i c d hy
    rw [hy] at hq ⊢
    split at hg
    ·rename_i hn
     rw [hn]
     exact ⟨trivial,.dead,.fz (hq.gd_inv.1 hg)⟩
    ·rename_i p hp
     rw [hp]
     exact ⟨hg.2,.dead,.fz (hq.gd_inv.1 hg.1)⟩
   ·rename_i hn
    refine ⟨hg,q,?_⟩
    generalize bX fr0 fr y=d at hq hn ⊢
    cases d with
    |gd c d=>exact absurd rfl (hn c d)
    |_=>exact hq
  rcases List.mem_cons.1 hx with rfl|hx
  ·exact key.2
  ·exact zC xs (fun x hx=>hr x (by simp [hx])) key.1 x hx
theorem QInv.wanted {frF fr0 fr:List D} {pre:List Oper} (h:QInv S l.toArray c cs n0 a0 fr0 pre fs a fr) (hC:QC S l c cs a0 frF fr0 w0) (hpre:∀ (k:Nat) (p:Oper),pre[k]?=some p→l[k]?=some p) (ho:l[pre.length]?=some o)
  (hR:Rw S cs w0 w) (hS:S'=S∨S'=S.drop cs) (hSd:∀ e ∈ o.after.toList,Region.binds .any e=true→eY l.toArray c e.on=true→S'=S.drop cs)
  (hf:∀ e ∈ o.after.toList,Region.binds .any e=true→(fs.getD e.on (fun _=>True)) w) {j:Nat} {want cb:Bool} (hg:o.guard=some (j,want)) (hc:pC l fr j want=some cb):Region.wanted o (yielded l.toArray a.tmps)=cb:=by
 unfold pC at hc
 split at hc
 ·rename_i oj hj
  split at hc
  ·rename_i t ht
   have hlook:t ∈ o.looksAt l.toArray:=by
    unfold Oper.looksAt
    refine List.mem_append_right _ ?_
    rw [hg]
    simp [hj,ht]
   have hy:∀ v,a.tmps[t]?=some v→((l.toArray[j]?).bind (·.dst)).bind (a.tmps[·]?)=some v:=fun v hv=>by
    simp only [List.getElem?_toArray,hj,Option.bind_some,ht,hv]
   obtain ⟨q,hq⟩:=h.eval hC hpre ho hR hS hSd hf (x:=.tmp t) (fun t' e=>by cases e;exact hlook)
   split at hc
   ·rename_i b hd
    have hlt:t < a.tmps.size:=by rw [h.size];exact (bC hd)
    have hv:a.tmps[t]?=some a.tmps[t]:=by simp [hlt]
    rw [cY hv] at hq
    simp only [bX,hd] at hq
    have hb:=hq.bool_inv
    refine pO hg (hy _ hv) ?_
    rw [hb]
    cases want<;>simp only [Option.some.injEq] at hc<;>subst hc<;>simp [rP]
   ·rename_i c0 b hd
    have hlt:t < a.tmps.size:=by rw [h.size];exact (bC hd)
    have hv:a.tmps[t]?=some a.tmps[t]:=by simp [hlt]
    rw [cY hv] at hq
    simp only [bX,hd] at hq
    obtain ⟨k1,k0⟩:=hq.gd_inv
    refine pO hg (hy _ hv) ?_
    cases c0 with
    |true=>
     rw [(Rep.fz (S:=S') (p:=.dead) (k1 rfl)).bool_inv]
     cases want<;>simp only [Option.some.injEq] at hc<;>subst hc<;>simp [rP]
    |false=>
     rw [k0 rfl]
     cases want<;>simp only [Option.some.injEq] at hc<;>subst hc<;>simp [rP,undef]
   ·cases hc
  ·cases hc
 ·cases hc
theorem uD {d:D} (ho:wT d=true):∀ u,fX d ≠ .al u:=by
 intro u e
 unfold fX at e
 split at e
 ·subst e;rename_i h;cases h
 ·rename_i h
  cases d<;>first|exact Bool.noConfusion (show true=false from h)|exact Bool.noConfusion (show false=true from ho)|(simp [D.frz] at e;done)
theorem rK {d:D} (ho:wT d=true):∀ u off,fX d ≠ .ref u off:=by
 intro u off e
 unfold fX at e
 split at e
 ·subst e;rename_i h;cases h
 ·rename_i h
  cases d<;>first|exact Bool.noConfusion (show true=false from h)|exact Bool.noConfusion (show false=true from ho)|(simp [D.frz] at e;done)
theorem zE4 {d:D} (ho:wT d=true):∀ u off,fX d ≠ .alc u off:=by
 intro u off e
 unfold fX at e
 split at e
 ·subst e;rename_i h;cases h
 ·rename_i h
  cases d<;>first|exact Bool.noConfusion (show true=false from h)|exact Bool.noConfusion (show false=true from ho)|(simp [D.frz] at e;done)
theorem zHm {d:D} (ho:wT d=true):∀ u off sz k j,fX d ≠ .el u off sz k j:=by
 intro u off sz k j e
 unfold fX at e
 split at e
 ·subst e;rename_i h;cases h
 ·rename_i h
  cases d<;>first|exact Bool.noConfusion (show true=false from h)|exact Bool.noConfusion (show false=true from ho)|(simp [D.frz] at e;done)
theorem zDD {d:D} (ho:wT d=true):∀ c u off,fX d ≠ .gref c u off:=by
 intro c u off e
 unfold fX at e
 split at e
 ·subst e;rename_i h;cases h
 ·rename_i h
  cases d<;>first|exact Bool.noConfusion (show true=false from h)|exact Bool.noConfusion (show false=true from ho)|(simp [D.frz] at e;done)
theorem zF1 {d:D} (ho:wT d=true) {fr0:List D} :uN fr0 cs (fX d):=by
 have h1:=uD ho
 have h2:=rK ho
 have h3:=zE4 ho
 have h4:=zHm ho
 have h5:=zDD ho
 generalize fX d=e at *
 cases e with
 |al u=>exact absurd rfl (h1 u)
 |gref c u off=>exact absurd rfl (h5 c u off)
 |ref u off=>exact absurd rfl (h2 u off)
 |alc u off=>exact absurd rfl (h3 u off)
 |el u off sz k j=>exact absurd rfl (h4 u off sz k j)
 |_=>trivial
theorem QInv.evAl {frF fr0 fr:List D} {pre:List Oper} (hI:QInv S l.toArray c cs n0 a0 fr0 pre fs a fr) (hC:QC S l c cs a0 frF fr0 w0) (hpre:∀ (k:Nat) (p:Oper),pre[k]?=some p→l[k]?=some p) (ho:l[pre.length]?=some o) {u0:Nat} (hlook:u0 ∈ o.looksAt l.toArray) (hd:fr[u0]?=some (.al u))
  (hf:∀ e ∈ o.after.toList,Region.binds .any e=true→(fs.getD e.on (fun _=>True)) w):a.eval (.tmp u0)=a0.eval (.tmp u):=by
 have hF:=hC.hF
 have hok:=hC.hok
 rcases hI.slot _ _ hd with ⟨h1,h2⟩|⟨k,p,v,k1,k2,k3,k4,k5⟩
 ·have htc:u0 ≠ cs:=fun e=>by subst e;have:=hC.at_cs h2;cases this
  rw [hC.other htc] at h2
  obtain ⟨v,hv,hsl⟩:=hF.at h2
  rw [cY (h1.trans hv),cY hsl.1]
 ·have hkl:k < pre.length:=(bC k1)
  have hpair:=(fJ hok (i:=pre.length) (k:=k) (o:=o) (p:=p) (by simpa using ho) (by simpa using hpre k p k1) (by omega) k2).2 hlook
  have hdep:nI o k=true:=by
   rcases hpair with h|h
   ·exact h
   ·obtain ⟨e,he,hb,hek⟩:=cW h
    have:=bY hok (i:=k) (o:=p) (by simpa using hpre k p k1) he hb
    omega
  obtain ⟨e,he,hb,hek⟩:=cW hdep
  have hfact:=hf e (by simpa using he) hb
  rw [hek,List.getD_eq_getElem?_getD,k4] at hfact
  rw [cY k3]
  exact hfact.2
theorem zIy {d:D} {v:Value} (hw:WF S w) (h:d.one=true) (hf:Fz S.lim w v d):Fact S n0 a0 d v w:=by
 refine ⟨hw,?_⟩
 cases d<;>first|exact hf|cases h
theorem Rep.gref_val {q:Place} {v:Value} {c:Bool} (h:Rep S w q v (.gref c u off)):v=if c=true then .pointer (some ⟨S.loc (u+2),off,none⟩) else undef:=by
 cases h with
 |fz h=>cases h
 |gref _ h=>exact h
theorem Rep.ref_val {q:Place} {v:Value} (h:Rep S w q v (.ref u off)):v=.pointer (some ⟨S.loc (u+2),off,none⟩):=by
 cases h with
 |fz h=>cases h
 |ref h=>rfl
theorem QInv.evNm {frF fr0 fr:List D} {pre:List Oper} (hI:QInv S l.toArray c cs n0 a0 fr0 pre fs a fr) (hC:QC S l c cs a0 frF fr0 w0) (hpre:∀ (k:Nat) (p:Oper),pre[k]?=some p→l[k]?=some p) (ho:l[pre.length]?=some o) {u0:Nat} {d:D} (hd:fr[u0]?=some d) (hn:d.nm3=true) (hlook:u0 ∈ o.looksAt l.toArray)
  (hf:∀ e ∈ o.after.toList,Region.binds .any e=true→(fs.getD e.on (fun _=>True)) w):∃ k,Fact (sg S l.toArray c cs k) n0 a0 d (a.eval (.tmp u0)) w∧uN fr0 cs d:=by
 have hok:=hC.hok
 rcases hI.slot _ _ hd with ⟨h1,h2⟩|⟨k,p,v,k1,k2,k3,k4,k5⟩
 ·exfalso
  by_cases htc:u0=cs
  ·subst htc
   obtain rfl:=hC.at_cs h2
   cases hn
  ·rw [hC.other htc] at h2
   rw [hC.nonm _ _ h2] at hn
   cases hn
 ·have hkl:k < pre.length:=(bC k1)
  have hpair:=(fJ hok (i:=pre.length) (k:=k) (o:=o) (p:=p) (by simpa using ho) (by simpa using hpre k p k1) (by omega) k2).2 hlook
  have hdep:nI o k=true:=by
   rcases hpair with h|h
   ·exact h
   ·obtain ⟨e,he,hb,hek⟩:=cW h
    have:=bY hok (i:=k) (o:=p) (by simpa using hpre k p k1) he hb
    omega
  obtain ⟨e,he,hb,hek⟩:=cW hdep
  have hfact:=hf e (by simpa using he) hb
  rw [hek,List.getD_eq_getElem?_getD,k4] at hfact
  rw [cY k3]
  exact ⟨k,hfact,k5⟩
theorem NewS.sg {sz n:Nat} {z:List D} {v:Value} (h:NewS S n0 sz n z v w) (ho:∀ b,S.own b=none→S'.own b=none):NewS S' n0 sz n z v w:=by
 obtain ⟨b,cap,cur,e,h1,h2,h3,h4,h5,h6,h7,h8,h9,h10⟩:=h
 refine ⟨b,cap,cur,e,h1,h2,ho b h3,h4,h5,h6,h7,h8,h9,fun k j d g1 g2 => ?_⟩
 obtain ⟨u,u1,u2,u3,u4⟩:=h10 k j d g1 g2
 exact ⟨u,u1,u2,u3,mG u3 u4⟩
theorem QInv.evNs {frF fr0 fr:List D} {pre:List Oper} (hI:QInv S l.toArray c cs n0 a0 fr0 pre fs a fr) (hC:QC S l c cs a0 frF fr0 w0) (hpre:∀ (k:Nat) (p:Oper),pre[k]?=some p→l[k]?=some p) (ho:l[pre.length]?=some o) (hS:S'=S∨S'=S.drop cs) (hSd:∀ e ∈ o.after.toList,Region.binds .any e=true→eY l.toArray c e.on=true→S'=S.drop cs) {u0 sz n:Nat} {z:List D} (hd:fr[u0]?=some (.nsl sz n z)) (hlook:u0 ∈ o.looksAt l.toArray)
  (hf:∀ e ∈ o.after.toList,Region.binds .any e=true→(fs.getD e.on (fun _=>True)) w):NewS S' n0 sz n z (a.eval (.tmp u0)) w:=by
 have hok:=hC.hok
 rcases hI.slot _ _ hd with ⟨h1,h2⟩|⟨k,p,v,k1,k2,k3,k4,k5⟩
 ·exfalso
  by_cases htc:u0=cs
  ·subst htc
   cases hC.at_cs h2
  ·rw [hC.other htc] at h2
   obtain ⟨v,hv,hs⟩:=hC.hF.at h2
   cases hs.1 with
   |fz h=>cases h
 ·have hkl:k < pre.length:=(bC k1)
  have hpair:=(fJ hok (i:=pre.length) (k:=k) (o:=o) (p:=p) (by simpa using ho) (by simpa using hpre k p k1) (by omega) k2).2 hlook
  have hdep:nI o k=true:=by
   rcases hpair with h|h
   ·exact h
   ·obtain ⟨e,he,hb,hek⟩:=cW h
    have:=bY hok (i:=k) (o:=p) (by simpa using hpre k p k1) he hb
    omega
  obtain ⟨e,he,hb,hek⟩:=cW hdep
  have hfact:=hf e (by simpa using he) hb
  rw [hek,List.getD_eq_getElem?_getD,k4] at hfact
  rw [cY k3]
  have h2:NewS (sg S l.toArray c cs k) n0 sz n z v w:=hfact.2
  refine h2.sg fun b hn => ?_
  unfold sg at hn
  split at hn
  ·rename_i hk
   rw [hSd e (by simpa using he) hb (by rw [hek];exact hk)]
   exact hn
  ·rcases hS with rfl|rfl
   ·exact hn
   ·cases hx:(S.drop cs).own b with
    |none=>rfl
    |some y=>
     have:=(gO hx).1
     rw [hn] at this
     cases this
theorem qZ {fr:List D}:∀ {l:List (Nat × Operand)} {s sz n:Nat} {z:List D},sR fr l=some (s,sz,n,z)→fr[s]?=some (.nsl sz n z)∧∃ x ∈ l,x.2=.tmp s
 |[],_,_,_,_,h=>by cases h
 |(i,x)::r,s,sz,n,z,h=>by
  cases x with
  |tmp y=>
   simp only [sR] at h
   split at h
   ·rename_i hd
    cases h
    exact ⟨hd,(i,.tmp s),by simp,rfl⟩
   ·obtain ⟨h1,x,h2,h3⟩:=qZ h
    exact ⟨h1,x,by simp [h2],h3⟩
  |_=>
   obtain ⟨h1,x,h2,h3⟩:=qZ (l:=r) h
   exact ⟨h1,x,by simp [h2],h3⟩
theorem QC.cellAt {frF fr0:List D} (h:QC S l c cs a0 frF fr0 w0) (hR:Rw S cs w0 w) (hS:S'=S∨S'=S.drop cs) {ds:List D} {d:D} (hd:fr0[u]?=some (.obj ds)) (hc:ds[off]?=some d):∃ y,w.cell? ⟨S.loc (u+2),off,none⟩=some y∧Rep S' w ⟨u+2,[off]⟩ y d:=by
 have hval:=h.objVal hd
 have hr:=h.hold hR hS hd hval (fun x e=>by cases e)
 obtain ⟨b,cur,e,hv,hb,hloc,hh,hsz,h1,ih⟩:=hr.obj_inv
 have hlt:off < cur.size:=by rw [← hsz];exact (bC hc)
 have hb2:S.loc (u+2)=b:=by cases hv;rfl
 refine ⟨cur[off],?_,ih off d _ hc (by simp [hlt])⟩
 rw [hb2,cell_of_row w b _ _ e (0,0) hh]
 simp [hlt]
theorem zCq (hT:TOk P T Z) {ci:Nat} {frF fr0 fr:List D} {pre:List Oper} {K:D→Prop} (hC:QC S l ci cs a0 frF fr0 w0) (hpre:∀ (k:Nat) (p:Oper),pre[k]?=some p→l[k]?=some p) (ho:l[pre.length]?=some o)
  (hn0:n0≤w0.heap.size) (hs:zHZ P T Z l cs fr0 fr o K):∃ d,K d∧uN fr0 cs d∧∀ (fs:List (World→Prop)) (a:Act),QInv S l.toArray ci cs n0 a0 fr0 pre fs a fr→∀ w,Rw S cs w0 w→(∀ e ∈ o.after.toList,Region.binds .any e=true→(fs.getD e.on (fun _=>True)) w)→iA P l.toArray Q o (eD (sg S l.toArray ci cs pre.length) n0 a0 d) a w:=by
 obtain ⟨S1,hS1⟩:∃ S1,S1=sg S l.toArray ci cs pre.length:=⟨_,rfl⟩
 rw [← hS1]
 have hSd:∀ e ∈ o.after.toList,Region.binds .any e=true→eY l.toArray ci e.on=true→S1=S.drop cs:=fun e he hb hl=>by
  rw [hS1]
  unfold sg
  rw [if_pos (zDl hC.hlate (by simpa using ho) he hb hl).1]
 have hS1o:S1=S∨S1=S.drop cs:=hS1 ▸ zPb
 have hF:=hC.hF
 have hok:=hC.hok
 have hops:∀ x ∈ o.op.operands.toList,∀ t,x=.tmp t→t ∈ o.looksAt l.toArray:=fun x hx t e=>by
  subst e
  exact List.mem_append_left _ (List.mem_filterMap.2 ⟨.tmp t,hx,rfl⟩)
 have wfw:∀ {w:World},Rw S cs w0 w→WF S1 w:=fun hx=>hC.wf hx hS1o
 -- a value that is known to be so
 have done:∀ {d:D} (a:Act) (w:World),Rw S cs w0 w→Region.wanted o (yielded l.toArray a.tmps)=true→(∀ K',(∀ v w',Fact S1 n0 a0 d v w'→Ext w w'→K' (a.put o.dst v) w')→o.wp P a w K' (NoPanic Q))→iA P l.toArray Q o (eD S1 n0 a0 d) a w:=by
  intro d a w _ hw h
  unfold iA
  rw [if_pos hw]
  exact fun K' hK=>.inl (h K' fun v w' h1 h2=>hK (0,0,v) w' h1 h2)
 have plainOp:∀ {s:Option Prop} {d:D},holds s→wT d=true→(holds s→OpOk P o (bX fr0 fr) d)→uN fr0 cs (fX d)∧∀ (fs:List (World→Prop)) (a:Act),QInv S l.toArray ci cs n0 a0 fr0 pre fs a fr→o.guard=none→∀ w,Rw S cs w0 w→(∀ e ∈ o.after.toList,Region.binds .any e=true→(fs.getD e.on (fun _=>True)) w)→iA P l.toArray Q o (eD S1 n0 a0 (fX d)) a w:=by
  intro s d h1 h2 h3
  refine ⟨zF1 h2,fun fs a hI hg w hx hf=>done a w hx (by unfold Region.wanted;rw [hg]) fun K' hK => ?_⟩
  obtain ⟨p,_,_,hp⟩:=oU S1 w (wfw hx)
  refine h3 h1 S1 w a p (wfw hx) (fun x hx'=>hI.eval hC hpre ho hx hS1o hSd hf (hops x hx')) K' _ fun v S' w' hpt hr _=>hK v w' ⟨?_,?_⟩ hpt.ext
  ·exact (PT.ext' (wfw hx) hpt.ext).wf
  ·have hz:=zLT (wfw hx) hpt hp hr h2
   have hn:=uD h2
   have hn':=rK h2
   generalize fX d=e at hz hn hn' ⊢
   cases e with
   |al u=>exact absurd rfl (hn u)
   |ref u off=>exact absurd rfl (hn' u off)
   |obj x=>cases hz
   |gref c u off=>cases hz
   |alc u off=>cases hz
   |el u off sz k j=>cases hz
   |nsl sz n z=>cases hz
   |nagg cs' off sz n z=>cases hz
   |_=>exact hz
 unfold zHZ at hs
 split at hs
 ·rename_i hg
  have hopD:(opD P T Z (bX fr0 fr) o.op fun s d=>jN s (match wT d with|true=>fR (fX d) K|false=>False))→∃ d,K d∧uN fr0 cs d∧∀ (fs:List (World→Prop)) (a:Act),QInv S l.toArray ci cs n0 a0 fr0 pre fs a fr→∀ w,Rw S cs w0 w→(∀ e ∈ o.after.toList,Region.binds .any e=true→(fs.getD e.on (fun _=>True)) w)→iA P l.toArray Q o (eD S1 n0 a0 d) a w:=by
   intro h
   obtain ⟨s,d,h1,h3⟩:=mA (dst:=o.dst) (ty:=o.type) (pos:=o.pos) (after:=o.after) (guard:=o.guard) hT h
   obtain ⟨g1,g2⟩:=hY.1 h1
   split at g2
   ·rename_i hq
    rw [dT] at g2
    obtain ⟨k1,k2⟩:=plainOp g1 hq h3
    exact ⟨_,g2,k1,fun fs a hI w hx hf=>k2 fs a hI hg w hx hf⟩
   ·exact g2.elim
  have aliasOp:∀ {u0 u:Nat},o.op=.move (.tmp u0)→zHH fr0 cs u→(∀ (fs:List (World→Prop)) (a:Act),QInv S l.toArray ci cs n0 a0 fr0 pre fs a fr→∀ w,(∀ e ∈ o.after.toList,Region.binds .any e=true→(fs.getD e.on (fun _=>True)) w)→a.eval (.tmp u0)=a0.eval (.tmp u))→K (.al u)→∃ d,K d∧uN fr0 cs d∧∀ (fs:List (World→Prop)) (a:Act),QInv S l.toArray ci cs n0 a0 fr0 pre fs a fr→∀ w,Rw S cs w0 w→(∀ e ∈ o.after.toList,Region.binds .any e=true→(fs.getD e.on (fun _=>True)) w)→iA P l.toArray Q o (eD S1 n0 a0 d) a w:=by
   intro u0 u hop hown hev hK
   refine ⟨_,hK,hown,fun fs a hI w hx hf=>done a w hx (by unfold Region.wanted;rw [hg]) fun K' hK' => ?_⟩
   obtain ⟨dst,op,ty,pos,after,guard⟩:=o
   simp only at hop
   subst hop
   exact jK rfl (hK' _ w ⟨wfw hx,hev fs a hI w hf⟩ (Ext.refl w))
  have evAl:∀ {u0 u:Nat},o.op=.move (.tmp u0)→fr[u0]?=some (.al u)→∀ (fs:List (World→Prop)) (a:Act),QInv S l.toArray ci cs n0 a0 fr0 pre fs a fr→∀ w,(∀ e ∈ o.after.toList,Region.binds .any e=true→(fs.getD e.on (fun _=>True)) w)→a.eval (.tmp u0)=a0.eval (.tmp u):=fun hop hd fs a hI w hf=>hI.evAl hC hpre ho (hops (.tmp _) (by rw [hop];simp [Op.operands]) _ rfl) hd hf
  have evRef:∀ {u x off:Nat},.tmp u ∈ o.op.operands.toList→fr[u]?=some (.ref x off)→∀ (fs:List (World→Prop)) (a:Act),QInv S l.toArray ci cs n0 a0 fr0 pre fs a fr→∀ w,Rw S cs w0 w→(∀ e ∈ o.after.toList,Region.binds .any e=true→(fs.getD e.on (fun _=>True)) w)→a.eval (.tmp u)=.pointer (some ⟨S.loc (x+2),off,none⟩):=fun hm hd fs a hI w hx hf=>by
   have hloc:S1.loc=S.loc:=by rcases hS1o with rfl|rfl<;>rfl
   obtain ⟨q,hq⟩:=hI.eval hC hpre ho hx hS1o hSd hf (x:=.tmp _) (fun t e=>by cases e;exact hops _ hm _ rfl)
   simp only [bX,hd] at hq
   rw [← hloc]
   exact hq.ref_val
  split at hs
  ·rename_i u0 hop
   split at hs
   ·rename_i hu
    have:=Nat.eq_of_beq_eq_true hu
    subst this
    split at hs
    ·rename_i e he
     refine aliasOp hop (.inl ⟨rfl,e,he⟩) (fun fs a hI w hf => ?_) hs
     simp [Act.eval,Array.getD_eq_getD_getElem?,hI.keep]
    ·exact hs.elim
   ·rename_i hu
    split at hs
    ·rename_i m sz rows hd
     split at hs
     ·rename_i hd0
      refine aliasOp hop (.inr ⟨_,hd0,rfl⟩) (fun fs a hI w hf => ?_) hs
      obtain ⟨_,h2⟩:=hI.own _ _ hd0 rfl
      simp [Act.eval,Array.getD_eq_getD_getElem?,h2]
     ·exact hs.elim
    ·rename_i u' hd
     split at hs
     ·rename_i hu'
      have:=Nat.eq_of_beq_eq_true hu'
      subst this
      split at hs
      ·rename_i e he
       exact aliasOp hop (.inl ⟨rfl,e,he⟩) (evAl hop hd) hs
      ·exact hs.elim
     ·split at hs
      ·rename_i hd0
       exact aliasOp hop (.inr ⟨_,hd0,rfl⟩) (evAl hop hd) hs
      ·exact hs.elim
    ·split at hs
     ·rename_i ds hd0
      refine ⟨_,hs,⟨ds,hd0⟩,fun fs a hI w hx hf=>done a w hx (by unfold Region.wanted;rw [hg]) fun K' hK => ?_⟩
      obtain ⟨_,h2⟩:=hI.own _ _ hd0 rfl
      have hval:=hC.objVal hd0
      have hloc:S1.loc=S.loc:=by rcases hS1o with rfl|rfl<;>rfl
      obtain ⟨dst,op,ty,pos,after,guard⟩:=o
      simp only at hop
      subst hop
      exact jK (cY (h2.trans hval)) (hK _ w ⟨wfw hx,by rw [hloc]⟩ (Ext.refl w))
     ·exact hs.elim
    ·rename_i x off hd
     split at hs
     ·rename_i ds hd0
      refine ⟨_,hs,⟨ds,hd0⟩,fun fs a hI w hx hf=>done a w hx (by unfold Region.wanted;rw [hg]) fun K' hK => ?_⟩
      have hev:=evRef (by rw [hop];simp [Op.operands]) hd fs a hI w hx hf
      have hloc:S1.loc=S.loc:=by rcases hS1o with rfl|rfl<;>rfl
      obtain ⟨dst,op,ty,pos,after,guard⟩:=o
      simp only at hop
      subst hop
      exact jK hev (hK _ w ⟨wfw hx,by rw [hloc]⟩ (Ext.refl w))
     ·exact hs.elim
    ·exact hopD hs
  ·rename_i c x y hop
   have hm:∀ z,z ∈ [c,x,y]→∀ t,z=.tmp t→t ∈ o.looksAt l.toArray:=fun z hz=>hops z (by rw [hop];simpa [Op.operands] using hz)
   obtain ⟨s,r,hp,h12⟩:=pT hs
   obtain ⟨h1,h2⟩:=hY.1 h12
   rw [dT] at h2
   refine ⟨_,h2,trivial,fun fs a hI w hx hf=>done a w hx (by unfold Region.wanted;rw [hg]) fun K' hK => ?_⟩
   have hev:∀ z,z ∈ [c,x,y]→∃ q,Rep S1 w q (a.eval z) (bX fr0 fr z):=fun z hz=>hI.eval hC hpre ho hx hS1o hSd hf (hm z hz)
   obtain ⟨p,h3,h4⟩:=kP (hev c (by simp)) (hev x (by simp)) (hev y (by simp)) hp h1
   obtain ⟨dst,op,ty,pos,after,guard⟩:=o
   simp only at hop
   subst hop
   refine sM h3 ?_
   rw [h4]
   exact hK _ w ⟨wfw hx,.bool r⟩ (Ext.refl w)
  ·rename_i ty0 hop
   split at hs
   ·rename_i zc hz
    split at hs
    ·rename_i h1
     rw [dT] at hs
     haveI:=hT.zer _ _ hz
     refine ⟨_,hs,trivial,fun fs a hI w hx hf=>done a w hx (by unfold Region.wanted;rw [hg]) fun K' hK => ?_⟩
     obtain ⟨dst,op,ty,pos,after,guard⟩:=o
     simp only at hop
     subst hop
     refine wQ fun g w' hb hx' hgs => ?_
     have hw1:=wfw hx
     refine hK _ w' ⟨(PT.ext' hw1 hx').wf,g,_,zc,rfl,?_,?_,hb,rfl,h1⟩ hx'
     ·have:=hx.size
      omega
     ·cases hob:S1.own g with
      |none=>rfl
      |some x=>have:=hw1 g x hob;omega
    ·exact hs.elim
   ·exact hs.elim
  ·rename_i ty0 u i hop
   split at hs
   ·rename_i ds hd
    split at hs
    ·rename_i ht
     split at hs
     ·rename_i off n ag hfl
      haveI:=(hT.ty _ _ ht).2.1 _ _ _ _ hfl
      refine ⟨_,hs,⟨ds,hd⟩,fun fs a hI w hx hf=>done a w hx (by unfold Region.wanted;rw [hg]) fun K' hK => ?_⟩
      obtain ⟨_,h2⟩:=hI.own u _ hd rfl
      have hval:=hC.objVal hd
      have hloc:S1.loc=S.loc:=by rcases hS1o with rfl|rfl<;>rfl
      obtain ⟨dst,op,ty,pos,after,guard⟩:=o
      simp only at hop
      subst hop
      refine bP (cY (h2.trans hval)) ?_
      rw [Nat.zero_add]
      exact hK _ w ⟨wfw hx,by rw [hloc]⟩ (Ext.refl w)
     ·exact hs.elim
    ·exact hs.elim
   ·split at hs
    ·rename_i x off0 hd
     split at hs
     ·rename_i ds hdx
      split at hs
      ·rename_i ht
       split at hs
       ·rename_i off n ag hfl
        haveI:=(hT.ty _ _ ht).2.1 _ _ _ _ hfl
        refine ⟨_,hs,⟨ds,hdx⟩,fun fs a hI w hx hf=>done a w hx (by unfold Region.wanted;rw [hg]) fun K' hK => ?_⟩
        have hev:=evRef (by rw [hop];simp [Op.operands]) hd fs a hI w hx hf
        have hloc:S1.loc=S.loc:=by rcases hS1o with rfl|rfl<;>rfl
        obtain ⟨dst,op,ty,pos,after,guard⟩:=o
        simp only at hop
        subst hop
        refine bP hev ?_
        exact hK _ w ⟨wfw hx,by rw [hloc]⟩ (Ext.refl w)
       ·exact hs.elim
      ·exact hs.elim
     ·exact hs.elim
    ·rename_i x c0 sz k j hd
     split at hs
     ·rename_i ht
      split at hs
      ·rename_i off n ag hfl
       split at hs
       ·rename_i ds hdx
        haveI:=(hT.ty _ _ ht).2.1 _ _ _ _ hfl
        have hlook:u ∈ o.looksAt l.toArray:=hops (.tmp u) (by rw [hop];simp [Op.operands]) u rfl
        refine ⟨_,hs,⟨ds,hdx⟩,fun fs a hI w hx hf=>done a w hx (by unfold Region.wanted;rw [hg]) fun K' hK => ?_⟩
        have hloc:S1.loc=S.loc:=by rcases hS1o with rfl|rfl<;>rfl
        obtain ⟨k',hfact,_⟩:=hI.evNm hC hpre ho hd rfl hlook hf
        obtain ⟨s,hs1,b,cap,m,e1,e2⟩:=hfact.2
        rw [lJ] at hs1
        obtain ⟨dst,op,ty,pos,after,guard⟩:=o
        simp only at hop
        subst hop
        refine bP e2 ?_
        refine hK _ w ⟨wfw hx,s,by rw [hloc];exact hs1,b,cap,m,e1,?_⟩ (Ext.refl w)
        rw [Nat.add_assoc]
       ·exact hs.elim
      ·exact hs.elim
     ·exact hs.elim
    ·exact hopD hs
  ·rename_i u hop
   split at hs
   ·rename_i x off hd
    split at hs
    ·rename_i ds hdx
     refine ⟨_,hs,⟨ds,hdx⟩,fun fs a hI w hx hf=>done a w hx (by unfold Region.wanted;rw [hg]) fun K' hK => ?_⟩
     have hev:=evRef (by rw [hop];simp [Op.operands]) hd fs a hI w hx hf
     have hloc:S1.loc=S.loc:=by rcases hS1o with rfl|rfl<;>rfl
     obtain ⟨dst,op,ty,pos,after,guard⟩:=o
     simp only at hop
     subst hop
     exact iG hev (hK _ w ⟨wfw hx,by rw [hloc]⟩ (Ext.refl w))
    ·exact hs.elim
   ·exact hopD hs
  ·rename_i ty0 u hop
   have hloc:S1.loc=S.loc:=by rcases hS1o with rfl|rfl<;>rfl
   have hlook:u ∈ o.looksAt l.toArray:=hops (.tmp u) (by rw [hop];simp [Op.operands]) u rfl
   have oneK:∀ {d:D},d.one=true→(∀ (fs:List (World→Prop)) (a:Act),QInv S l.toArray ci cs n0 a0 fr0 pre fs a fr→∀ w,Rw S cs w0 w→(∀ e ∈ o.after.toList,Region.binds .any e=true→(fs.getD e.on (fun _=>True)) w)→∃ A y,a.eval (.tmp u)=.pointer (some A)∧w.cell? A=some y∧Fz S1.lim w y d)→TOne P ty0→K d→∃ d,K d∧uN fr0 cs d∧∀ (fs:List (World→Prop)) (a:Act),QInv S l.toArray ci cs n0 a0 fr0 pre fs a fr→∀ w,Rw S cs w0 w→(∀ e ∈ o.after.toList,Region.binds .any e=true→(fs.getD e.on (fun _=>True)) w)→iA P l.toArray Q o (eD S1 n0 a0 d) a w:=by
    intro d h1 h2 h3 h4
    haveI:=h3
    refine ⟨d,h4,(by cases d<;>first|trivial|cases h1),fun fs a hI w hx hf=>done a w hx (by unfold Region.wanted;rw [hg]) fun K' hK => ?_⟩
    obtain ⟨A,y,e1,e2,e3⟩:=h2 fs a hI w hx hf
    obtain ⟨dst,op,ty,pos,after,guard⟩:=o
    simp only at hop
    subst hop
    exact fB e1 e2 (hK _ w (zIy (wfw hx) h1 e3) (Ext.refl w))
   split at hs
   ·rename_i x off hd
    have evr:∀ (fs:List (World→Prop)) (a:Act),QInv S l.toArray ci cs n0 a0 fr0 pre fs a fr→∀ w,Rw S cs w0 w→(∀ e ∈ o.after.toList,Region.binds .any e=true→(fs.getD e.on (fun _=>True)) w)→a.eval (.tmp u)=.pointer (some ⟨S.loc (x+2),off,none⟩):=fun fs a hI w hx hf=>by
     obtain ⟨q,hq⟩:=hI.eval hC hpre ho hx hS1o hSd hf (x:=.tmp u) (fun t e=>by cases e;exact hlook)
     simp only [bX,hd] at hq
     rw [← hloc]
     exact hq.ref_val
    split at hs
    ·rename_i ds hob
     split at hs
     ·rename_i sz rows hc
      split at hs
      ·rename_i e1 sz1 by1 zc1 ht
       haveI:=(hT.ty _ _ ht).one (fun n fl ks e=>by cases e)
       refine ⟨_,hs,⟨ds,hob⟩,fun fs a hI w hx hf=>done a w hx (by unfold Region.wanted;rw [hg]) fun K' hK => ?_⟩
       have e1:=evr fs a hI w hx hf
       obtain ⟨y,hy,_⟩:=hC.cellAt hx hS1o hob hc
       obtain ⟨dst,op,ty,pos,after,guard⟩:=o
       simp only at hop
       subst hop
       exact fB e1 hy (hK _ w ⟨wfw hx,by show w.cell? ⟨S1.loc (x+2),off,none⟩=some y;rw [hloc];exact hy⟩ (Ext.refl w))
      ·exact hs.elim
     ·rename_i sz rows hc
      split at hs
      ·rename_i e1 sz1 by1 zc1 ht
       rw [dT] at hs
       refine oneK (d:=.sl 0 sz rows) rfl (fun fs a hI w hx hf => ?_) ((hT.ty _ _ ht).one (fun n fl ks e=>by cases e)) hs
       obtain ⟨y,hy,hr⟩:=hC.cellAt hx hS1o hob hc
       exact ⟨_,y,evr fs a hI w hx hf,hy,(hr.le (.own sz rows)).passes rfl⟩
      ·exact hs.elim
     ·rename_i d _ hc
      split at hs
      ·rename_i h1
       split at hs
       ·exact hs.elim
       ·rename_i i hi ht
        rw [dT] at hs
        refine oneK h1 (fun fs a hI w hx hf => ?_) ((hT.ty _ _ ht).one (fun n fl ks e=>hi n fl ks e)) hs
        obtain ⟨y,hy,hr⟩:=hC.cellAt hx hS1o hob hc
        exact ⟨_,y,evr fs a hI w hx hf,hy,D.one_fz hr h1⟩
       ·exact hs.elim
      ·exact hs.elim
     ·exact hs.elim
    ·exact hs.elim
   ·rename_i x c0 sz k j hd
    split at hs
    ·rename_i ds hob
     split at hs
     ·rename_i sz' rows hc
      split at hs
      ·rename_i he
       obtain rfl:=Nat.eq_of_beq_eq_true he
       split at hs
       ·exact hs.elim
       ·rename_i i hi ht
        obtain ⟨r,⟨_,hr⟩,hs⟩:=hs.h
        have hr:rows[k]?=some r:=hr
        split at hs
        ·rename_i d hrd
         split at hs
         ·rename_i h1
          rw [dT] at hs
          refine oneK h1 (fun fs a hI w hx hf => ?_) ((hT.ty _ _ ht).one (fun n fl ks e=>hi n fl ks e)) hs
          obtain ⟨k',hfact,_⟩:=hI.evNm hC hpre ho hd rfl hlook hf
          obtain ⟨s,hs1,hs2⟩:=hfact.2
          rw [lJ] at hs1
          obtain ⟨y,hy,hrep⟩:=hC.cellAt hx hS1o hob hc
          rw [hy] at hs1
          cases hs1
          obtain ⟨b,cap,cur,e,hv1,hv2,g⟩:=zF7 hrep hs2 hr
          obtain ⟨z,z1,z2,z3⟩:=g.elem hr hrd
          exact ⟨_,z,by first|exact hv1|exact hv2,z1,z3⟩
         ·exact hs.elim
        ·exact hs.elim
       ·exact hs.elim
      ·exact hs.elim
     ·exact hs.elim
    ·exact hs.elim
   ·exact hopD hs
  ·rename_i ty0 u y0 hop
   have hloc:S1.loc=S.loc:=by rcases hS1o with rfl|rfl<;>rfl
   have hlook:u ∈ o.looksAt l.toArray:=hops (.tmp u) (by rw [hop];simp [Op.operands]) u rfl
   split at hs
   ·rename_i x off hd
    split at hs
    ·rename_i ds hob
     split at hs
     ·rename_i sz rows hc
      split at hs
      ·rename_i e1 sz' by1 zc1 ki j ht hy0
       split at hs
       ·rename_i he
        obtain rfl:=Nat.eq_of_beq_eq_true he
        obtain ⟨⟨h0,h1⟩,hs⟩:=hs
        haveI:=(hT.ty _ _ ht).1
        haveI:=(hT.ty _ _ ht).2.1
        refine ⟨_,hs,⟨ds,hob⟩,fun fs a hI w hx hf=>done a w hx (by unfold Region.wanted;rw [hg]) fun K' hK => ?_⟩
        obtain ⟨k',hfact,_⟩:=hI.evNm hC hpre ho hd rfl hlook hf
        have hs1:w.cell? ⟨(sg S l.toArray ci cs k').loc (x+2),off,none⟩=some (a.eval (.tmp u)):=hfact.2
        rw [lJ] at hs1
        obtain ⟨y,hy,hrep⟩:=hC.cellAt hx hS1o hob hc
        rw [hy] at hs1
        have hye:y=a.eval (.tmp u):=Option.some.inj hs1
        obtain ⟨q,hq⟩:=hI.eval hC hpre ho hx hS1o hSd hf (x:=y0) (fun t e=>hops y0 (by rw [hop];simp [Op.operands]) t e)
        rw [hy0] at hq
        rcases hrep.sl_inv with ⟨_,rfl⟩|⟨b,cap,cur,e2,hv,g⟩
        ·simp at h1;omega
        ·obtain ⟨dst,op,ty,pos,after,guard⟩:=o
         simp only at hop
         subst hop
         refine nU (by rw [← hye];exact hv) hq.int_inv h0 h1 (hK _ w ⟨wfw hx,?_⟩ (Ext.refl w))
         show ∃ s,w.cell? ⟨S1.loc (x+2),off,none⟩=some s∧zAe s _ _ _ _
         rw [hloc]
         exact ⟨y,hy,b,_,_,hv,by rw [Nat.zero_add,Nat.add_zero]⟩
       ·exact hs.elim
      ·exact hs.elim
     ·exact hs.elim
    ·exact hs.elim
   ·exact hopD hs
  ·rename_i t0 l0 c0 hop
   split at hs
   ·rename_i td htd
    split at hs
    ·split at hs
     ·rename_i e1 sz by' zc q q2 ht hl hc
      split at hs
      ·rename_i hb
       simp only [Bool.and_eq_true] at hb
       obtain ⟨⟨h1,h2,h3⟩,hs⟩:=hs
       haveI:=(hT.ty _ _ ht).1
       haveI:=(hT.ty _ _ ht).2.2.2.1
       haveI:=(hT.ty _ _ ht).2.2.2.2
       refine ⟨_,hs,trivial,fun fs a hI w hx hf=>done a w hx (by unfold Region.wanted;rw [hg]) fun K' hK => ?_⟩
       obtain ⟨p,_,_,hp⟩:=oU S1 w (wfw hx)
       have hev:∀ x ∈ o.op.operands.toList,∃ q,Rep S1 w q (a.eval x) (bX fr0 fr x):=fun x hx'=>hI.eval hC hpre ho hx hS1o hSd hf (hops x hx')
       obtain ⟨dst,op,ty,pos,after,guard⟩:=o
       simp only at hop
       subst hop
       refine sQ (P:=P) (dst:=dst) (ty:=ty) (pos:=pos) (after:=after) (guard:=guard) (ρ:=bX fr0 fr) hb.2.1 hl hc (by omega) h2 h3 (Nat.le_of_ble_eq_true hb.1) S1 w a p (wfw hx) hev K' _ fun v S' w' hpt hr _=>hK v w' ⟨(PT.ext' (wfw hx) hpt.ext).wf,?_⟩ hpt.ext
       show NewS S1 n0 sz q.toNat (cX zc) v w'
       rcases hr.sl_inv with ⟨_,e⟩|⟨b,cap,cur,e,rfl,g⟩
       ·have:=congrArg List.length e
        rw [List.length_replicate] at this
        simp at this
        omega
       ·have hbn:¬ b < w.heap.size:=fun hlt=>by
         have:=hpt.own b hlt
         rw [g.own] at this
         exact hp b _ this.symm (Place.under_refl p)
        have hz0:(List.replicate q.toNat (cX zc))[0]?=some (cX zc):=by rw [List.getElem?_replicate,if_pos (by omega)]
        refine ⟨b,cap,cur,e,by rw [List.length_replicate],?_,?_,g.heap,by omega,by have:=g.le;rwa [List.length_replicate] at this,g.max,g.size,g.each _ (aK hz0),fun k j d g1 g2 => ?_⟩
        ·have:=hx.size
         omega
        ·cases hob:S1.own b with
         |none=>rfl
         |some x=>have:=(wfw hx) b x hob;omega
        ·obtain ⟨u,u1,u2,u3⟩:=g.cells k _ j d (by rw [List.getElem?_replicate,if_pos g1]) g2
         have hfl:d.flat1=true:=List.all_eq_true.1 hb.2.2 d (aK g2)
         exact ⟨u,u1,u2,hfl,mG hfl u3⟩
      ·exact hs.elim
     ·exact hs.elim
    ·exact hopD hs
   ·exact hopD hs
  ·rename_i ty0 parts hop
   split at hs
   ·rename_i s sz n z hpt
    obtain ⟨hds,xs,hxs1,hxs2⟩:=qZ hpt
    split at hs
    ·rename_i n1 fl ks zc hty hz
     split at hs
     ·rename_i hzc
      split at hs
      ·rename_i cs2 hfl
       split at hs
       ·rename_i off hal
        split at hs
        ·rename_i hone
         rw [dF] at hs
         obtain ⟨s',hoff⟩:=zGg hal
         haveI:=(hT.ty _ _ hty).2.2.1
         haveI:=hT.zer _ _ hz
         have hlook:s ∈ o.looksAt l.toArray:=hops (.tmp s) (by rw [hop];simp only [Op.operands,List.mem_map];exact ⟨xs,hxs1,hxs2⟩) s rfl
         refine ⟨_,hs,trivial,fun fs a hI w hx hf=>done a w hx (by unfold Region.wanted;rw [hg]) fun K' hK => ?_⟩
         have hns:=hI.evNs hC hpre ho hS1o hSd hds hlook hf
         have hev:∀ x ∈ o.op.operands.toList,∃ q,Rep S1 w q (a.eval x) (bX fr0 fr x):=fun x hx'=>hI.eval hC hpre ho hx hS1o hSd hf (hops x hx')
         generalize hv0:a.eval (.tmp s)=v0 at hns
         have hval:∃ b cap,v0=.slice (some ⟨b,0,none⟩) n cap:=by
          obtain ⟨b,cap,cur,e,h1,_⟩:=hns
          exact ⟨b,cap,h1⟩
         have one:v0.oneCell'=true:=by obtain ⟨b,cap,rfl⟩:=hval;rfl
         have hcv:v0.cells.toList = [v0]:=by obtain ⟨b,cap,rfl⟩:=hval;rfl
         have hf':=uF (zCK v0) _ _ _ hfl
         rw [zGq hzc] at hf'
         obtain ⟨dst,op,ty,pos,after,guard⟩:=o
         simp only at hop
         subst hop
         obtain ⟨us,h1,h2⟩:=kZ (S:=S1) (w:=w) (parts.toList.map fun x=>(x.1,a.eval x.2)) _ zc (cX zc) _ hf' (CR.zero hzc) (by simp) (fun j x y hx' hy=>by
          rw [List.getElem?_map] at hx'
          rw [List.getElem?_map,List.getElem?_map] at hy
          cases hp:parts.toList[j]? with
          |none=>rw [hp] at hx';cases hx'
          |some z0=>
           rw [hp] at hx' hy
           cases hx';cases hy
           refine ⟨rfl,fun ds hd => ?_⟩
           have hmem:z0.2 ∈ (Op.build ty0 parts).operands.toList:=by simp only [Op.operands,List.mem_map];exact ⟨z0,aK hp,rfl⟩
           obtain ⟨i,x⟩:=z0
           simp only [Option.map_eq_some_iff] at hd
           obtain ⟨ds0,hd0,rfl⟩:=hd
           have gen:(bX fr0 fr x).cellsOf=some ds0→CR S1.lim w (a.eval x).cells.toList (ds0.map (zCK v0)):=fun g=>by
            rw [zD0 g]
            obtain ⟨q,hq⟩:=hev x hmem
            exact CR.of hq g
           cases x with
           |tmp y=>
            simp only [zLZ] at hd0
            split at hd0
            ·rename_i he
             obtain rfl:=Nat.eq_of_beq_eq_true he
             cases hd0
             show CR S1.lim w (a.eval (.tmp y)).cells.toList [.pv v0]
             rw [hv0,hcv]
             refine ⟨rfl,fun u hu => ?_,fun j d u hj hu => ?_⟩
             ·simp only [List.mem_singleton] at hu;subst hu;exact one
             ·match j,hj,hu with
              |0,hj,hu=>cases hj;cases hu;exact .pv _
              |j+1,hj,_=>simp at hj
            ·exact gen hd0
           |const c=>exact gen hd0
           |global g=>exact gen hd0
           | func g=>exact gen hd0)
         have hlen:us.length=cs2.length:=by rw [h2.len,List.length_map]
         have hlt:off < cs2.length:=(bC hoff)
         have huv:us[off]?=some v0:=by
          have hul:off < us.length:=by omega
          obtain ⟨x0,hx0⟩:∃ x0,us[off]?=some x0:=⟨_,List.getElem?_eq_getElem hul⟩
          have:=h2.fz off (.pv v0) x0 (by rw [List.getElem?_map,hoff];rfl) hx0
          cases this
          exact hx0
         have hA:NewA S1 n0 (cs2.set off .nil) off sz n z (.agg us.toArray) w:=⟨us,v0,rfl,by rw [List.length_set];exact hlen,h2.one,huv,hns,fun j d x hj hd hx'=>by
          have ho1:d.one=true:=List.all_eq_true.1 hone d (aK hd)
          rw [List.getElem?_set_ne (Ne.symm hj)] at hd
          exact ⟨ho1,h2.fz j d x (by rw [List.getElem?_map,hd,Option.map_some,yC ho1]) hx'⟩⟩
         have:=zBI (P:=P) (Q:=NoPanic Q) (dst:=dst) (ty:=ty) (pos:=pos) (after:=after) (guard:=guard) (t:=ty0) (parts:=parts.toList) rfl h1 (hK _ w ⟨wfw hx,hA⟩ (Ext.refl w))
         simpa using this
        ·exact hs.elim
       ·exact hs.elim
      ·exact hs.elim
     ·exact hs.elim
    ·exact hs.elim
   ·exact hopD hs
  ·exact hopD hs
 ·rename_i j want hg
  split at hs
  ·rename_i c hc
   -- carried out, or passed over
   have both:∀ {d:D} (a:Act) (w:World) (fs:List (World→Prop)),QInv S l.toArray ci cs n0 a0 fr0 pre fs a fr→Rw S cs w0 w→(∀ e ∈ o.after.toList,Region.binds .any e=true→(fs.getD e.on (fun _=>True)) w)→
     (c=true→∀ K',(∀ v w',Fz S1.lim w' v d→Ext w w'→K' (a.put o.dst v) w')→o.wp P a w K' (NoPanic Q))→iA P l.toArray Q o (eD S1 n0 a0 (.gd c d)) a w:=by
    intro d a w fs hI hx hf h
    have hw:=hI.wanted hC hpre ho hx hS1o hSd hf hg hc
    unfold iA
    rw [hw]
    cases c with
    |true=>
     rw [if_pos rfl]
     exact fun K' hK=>.inl (h rfl K' fun v w' h1 h2=>hK (0,0,v) w' ⟨(PT.ext' (wfw hx) h2).wf,.gd (fun _=>h1) (fun e=>by cases e)⟩ h2)
    |false=>
     rw [if_neg (by simp)]
     exact ⟨(0,0,undef),rfl,wfw hx,.gd (fun e=>by cases e) (fun _=>rfl)⟩
   have hopG:opG P T Z fr0 fr c o.op K→∃ d,K d∧uN fr0 cs d∧∀ (fs:List (World→Prop)) (a:Act),QInv S l.toArray ci cs n0 a0 fr0 pre fs a fr→∀ w,Rw S cs w0 w→(∀ e ∈ o.after.toList,Region.binds .any e=true→(fs.getD e.on (fun _=>True)) w)→iA P l.toArray Q o (eD S1 n0 a0 d) a w:=by
    intro hs
    unfold opG at hs
    obtain ⟨s,d,h1,h3⟩:=mA (dst:=o.dst) (ty:=o.type) (pos:=o.pos) (after:=o.after) (guard:=o.guard) hT hs
    obtain ⟨h1,h2⟩:=hY.1 h1
    split at h2
    ·rename_i hpass
     rw [dT] at h2
     refine ⟨_,h2,trivial,fun fs a hI w hx hf=>both a w fs hI hx hf fun hct K' hK => ?_⟩
     obtain ⟨hgd,hs'⟩:=iU h1 hct
     obtain ⟨p,_,_,hp⟩:=oU S1 w (wfw hx)
     refine h3 hs' S1 w a p (wfw hx) (fun x hx'=>zC _ (fun z hz=>hI.eval hC hpre ho hx hS1o hSd hf (hops z hz)) hgd x hx') K' _ fun v S' w' hpt hr _=>hK v w' ?_ hpt.ext
     have hok':wT d=true:=by unfold wT;rw [hpass]
     have hz:=zLT (wfw hx) hpt hp hr hok'
     have e:fX d=d:=by unfold fX;rw [hpass]
     rwa [e] at hz
    ·exact h2.elim
   have hloc:S1.loc=S.loc:=by rcases hS1o with rfl|rfl<;>rfl
   have jG:∀ {x off:Nat} (a:Act) (w:World) (fs:List (World→Prop)),QInv S l.toArray ci cs n0 a0 fr0 pre fs a fr→Rw S cs w0 w→(∀ e ∈ o.after.toList,Region.binds .any e=true→(fs.getD e.on (fun _=>True)) w)→
     (c=true→∀ K':Act→World→Prop,K' (a.put o.dst (.pointer (some ⟨S.loc (x+2),off,none⟩))) w→o.wp P a w K' (NoPanic Q))→iA P l.toArray Q o (eD S1 n0 a0 (.gref c x off)) a w:=by
    intro x off a w fs hI hx hf h
    have hw:=hI.wanted hC hpre ho hx hS1o hSd hf hg hc
    unfold iA
    rw [hw]
    cases c with
    |true=>
     rw [if_pos rfl]
     exact fun K' hK=>.inl (h rfl K' (hK (0,0,_) w ⟨wfw hx,by show (_:Value)=if true=true then _ else _;rw [hloc,if_pos rfl]⟩ (Ext.refl w)))
    |false=>
     rw [if_neg (by simp)]
     exact ⟨(0,0,undef),rfl,wfw hx,rfl⟩
   have evG:∀ {u x off:Nat} {c':Bool},.tmp u ∈ o.op.operands.toList→fr[u]?=some (.gref c' x off)→∀ (fs:List (World→Prop)) (a:Act),QInv S l.toArray ci cs n0 a0 fr0 pre fs a fr→∀ w,Rw S cs w0 w→(∀ e ∈ o.after.toList,Region.binds .any e=true→(fs.getD e.on (fun _=>True)) w)→c'=true→a.eval (.tmp u)=.pointer (some ⟨S.loc (x+2),off,none⟩):=fun hm hd fs a hI w hx hf hct=>by
    obtain ⟨q,hq⟩:=hI.eval hC hpre ho hx hS1o hSd hf (x:=.tmp _) (fun t e=>by cases e;exact hops _ hm _ rfl)
    simp only [bX,hd] at hq
    rw [hq.gref_val,if_pos hct,hloc]
   split at hs
   ·rename_i cc x y hop
    have hm:∀ z,z ∈ [cc,x,y]→∀ t,z=.tmp t→t ∈ o.looksAt l.toArray:=fun z hz=>hops z (by rw [hop];simpa [Op.operands] using hz)
    obtain ⟨s,r,hp,h12⟩:=pT hs
    obtain ⟨h1,h2⟩:=hY.1 h12
    refine ⟨_,h2,trivial,fun fs a hI w hx hf=>both a w fs hI hx hf fun hct K' hK => ?_⟩
    have hev:∀ z,z ∈ [cc,x,y]→∃ q,Rep S1 w q (a.eval z) (bX fr0 fr z):=fun z hz=>hI.eval hC hpre ho hx hS1o hSd hf (hm z hz)
    obtain ⟨hgd,hs'⟩:=iU h1 hct
    obtain ⟨p,h3,h4⟩:=kP (zC [cc] (fun z hz=>hev z (by simp at hz;simp [hz])) hgd cc (by simp)) (hev x (by simp)) (hev y (by simp)) hp hs'
    obtain ⟨dst,op,ty,pos,after,guard⟩:=o
    simp only at hop
    subst hop
    refine sM h3 ?_
    rw [h4]
    exact hK _ w (.bool r) (Ext.refl w)
   ·rename_i u hop
    split at hs
    ·rename_i ds hob
     refine ⟨_,hs,⟨ds,hob⟩,fun fs a hI w hx hf=>jG a w fs hI hx hf fun hct K' hK => ?_⟩
     obtain ⟨_,h2⟩:=hI.own u _ hob rfl
     have hval:=hC.objVal hob
     obtain ⟨dst,op,ty,pos,after,guard⟩:=o
     simp only at hop
     subst hop
     exact jK (cY (h2.trans hval)) hK
    ·exact hopG hs
   ·rename_i u hop
    split at hs
    ·rename_i c' x off hd
     split at hs
     ·rename_i ds hob
      obtain ⟨hcc,hs⟩:=hs
      refine ⟨_,hs,⟨ds,hob⟩,fun fs a hI w hx hf=>jG a w fs hI hx hf fun hct K' hK => ?_⟩
      have hev:=evG (by rw [hop];simp [Op.operands]) hd fs a hI w hx hf (hcc hct)
      obtain ⟨dst,op,ty,pos,after,guard⟩:=o
      simp only at hop
      subst hop
      exact iG hev hK
     ·exact hs.elim
    ·exact hopG hs
   ·rename_i ty0 u i hop
    split at hs
    ·rename_i c' x off0 hd
     split at hs
     ·rename_i ds hob
      split at hs
      ·rename_i ht
       split at hs
       ·rename_i off n ag hfl
        obtain ⟨hcc,hs⟩:=hs
        haveI:=(hT.ty _ _ ht).2.1 _ _ _ _ hfl
        refine ⟨_,hs,⟨ds,hob⟩,fun fs a hI w hx hf=>jG a w fs hI hx hf fun hct K' hK => ?_⟩
        have hev:=evG (by rw [hop];simp [Op.operands]) hd fs a hI w hx hf (hcc hct)
        obtain ⟨dst,op,ty,pos,after,guard⟩:=o
        simp only at hop
        subst hop
        exact bP hev hK
       ·exact hs.elim
      ·exact hs.elim
     ·exact hs.elim
    ·exact hopG hs
   ·rename_i ty0 u hop
    split at hs
    ·rename_i c' x off hd
     split at hs
     ·rename_i ds hob
      split at hs
      ·rename_i sz rows hcd
       split at hs
       ·rename_i e1 sz1 by1 zc1 ht
        obtain ⟨hcc,hs⟩:=hs
        rw [dT] at hs
        haveI:=(hT.ty _ _ ht).one (fun n fl ks e=>by cases e)
        refine ⟨_,hs,trivial,fun fs a hI w hx hf=>both a w fs hI hx hf fun hct K' hK => ?_⟩
        have hev:=evG (by rw [hop];simp [Op.operands]) hd fs a hI w hx hf (hcc hct)
        obtain ⟨y,hy,hr⟩:=hC.cellAt hx hS1o hob hcd
        obtain ⟨dst,op,ty,pos,after,guard⟩:=o
        simp only at hop
        subst hop
        exact fB hev hy (hK _ w ((hr.le (.own sz rows)).passes rfl) (Ext.refl w))
       ·exact hs.elim
      ·rename_i d _ hcd
       split at hs
       ·rename_i h1
        split at hs
        ·exact hs.elim
        ·rename_i i hi ht
         obtain ⟨hcc,hs⟩:=hs
         rw [dT] at hs
         haveI:=(hT.ty _ _ ht).one (fun n fl ks e=>hi n fl ks e)
         refine ⟨_,hs,trivial,fun fs a hI w hx hf=>both a w fs hI hx hf fun hct K' hK => ?_⟩
         have hev:=evG (by rw [hop];simp [Op.operands]) hd fs a hI w hx hf (hcc hct)
         obtain ⟨y,hy,hr⟩:=hC.cellAt hx hS1o hob hcd
         obtain ⟨dst,op,ty,pos,after,guard⟩:=o
         simp only at hop
         subst hop
         exact fB hev hy (hK _ w (D.one_fz hr h1) (Ext.refl w))
        ·exact hs.elim
       ·exact hs.elim
      ·exact hs.elim
     ·exact hs.elim
    ·exact hopG hs
   ·exact hopG hs
  ·exact hs.elim
theorem QInv.step {fr0 fr:List D} {pre:List Oper} {d:D} {v:Value} (h:QInv S l.toArray c cs n0 a0 fr0 pre fs a fr)
  (hal:uN fr0 cs d) {fr':List D} (hfr:(o.dst=none∧fr'=fr)∨∃ t d0,o.dst=some t∧fr[t]?=some d0∧d0.owns=false∧t ≠ cs∧fr'=fr.set t d):QInv S l.toArray c cs n0 a0 fr0 (pre ++ [o]) (fs ++ [Fact (sg S l.toArray c cs pre.length) n0 a0 d v]) (a.put o.dst v) fr':=by
 have ext:∀ (k:Nat) (p:Oper),pre[k]?=some p→(pre ++ [o])[k]?=some p:=fun k p hk=>by
  rw [List.getElem?_append_left (bC hk)];exact hk
 have extf:∀ (k:Nat) (f:World→Prop),fs[k]?=some f→(fs ++ [Fact (sg S l.toArray c cs pre.length) n0 a0 d v])[k]?=some f:=fun k p hk=>by
  rw [List.getElem?_append_left (bC hk)];exact hk
 rcases hfr with ⟨hn,rfl⟩|⟨t,d0,ht,h0,hd0,htc,rfl⟩
 ·rw [hn]
  refine ⟨h.size,h.len,h.defers,by simp [h.fslen],fun t e he => ?_,h.own,h.keep⟩
  rcases h.slot t e he with hl|⟨k,p,u,k1,k2,k3,k4,k5⟩
  ·exact .inl hl
  ·exact .inr ⟨k,p,u,ext k p k1,k2,k3,extf k _ k4,k5⟩
 ·rw [ht]
  have hlt:t < fr.length:=(bC h0)
  refine ⟨by simp [Act.put,h.size],by simp [h.len],by simp [Act.put,h.defers],by simp [h.fslen],fun x e he => ?_,fun u e he hoe => ?_,by rw [bQ (Ne.symm htc)];exact h.keep⟩
  ·by_cases hxt:x=t
   ·subst hxt
    rw [List.getElem?_set_self hlt] at he
    cases he
    refine .inr ⟨pre.length,o,v,by simp,ht,gL (by rw [h.size];exact hlt),?_,hal⟩
    rw [← h.fslen];simp
   ·rw [List.getElem?_set_ne (Ne.symm hxt)] at he
    rw [bQ hxt]
    rcases h.slot x e he with hl|⟨k,p,u,k1,k2,k3,k4,k5⟩
    ·exact .inl hl
    ·exact .inr ⟨k,p,u,ext k p k1,k2,k3,extf k _ k4,k5⟩
  ·obtain ⟨g1,g2⟩:=h.own u e he hoe
   have hut:u ≠ t:=fun e'=>by subst e';rw [g1] at h0;cases h0;rw [hoe] at hd0;cases hd0
   exact ⟨by rw [List.getElem?_set_ne (Ne.symm hut)];exact g1,by rw [bQ hut];exact g2⟩
def D.isNew:D→Bool
 |.nsl _ _ _ | .nagg _ _ _ _ _=>true
 |_=>false
theorem QInv.fr {frF fr0 fr:List D} {pre:List Oper} (h:QInv S l.toArray c cs n0 a0 fr0 pre fs a fr) (hC:QC S l c cs a0 frF fr0 w0) (hR:Rw S cs w0 w) (hf:∀ f ∈ fs,f w) (hnob:∀ (i:Nat) (x:List D),fr[i]?=some (D.obj x)→∃ c':List D,fr0[i]?=some (D.obj c')) (hnew:∀ (i:Nat) (d:D),fr[i]?=some d→d.isNew=false):FR (S.drop cs) w a (fr.map (bI cs .any))∧(fr0[cs]?=none→FR (S.drop cs) w a fr):=by
 have hF:=hC.hF
 have hwf:=hC.wf hR (.inr rfl)
 -- whatever frame holds what the owners are
 have key:∀ F:List D,(∀ u d,u ≠ cs→fr0[u]?=some d→d.owns=true→F[u]?=some d)→∀ (i:Nat) (d:D) (v:Value),fr[i]?=some d→a.tmps[i]?=some v→d ≠ .al cs→SlotRep (S.drop cs) w a F i v d:=by
  intro F hFo i d v hd hv hnc
  have hrk:∀ e,bM frF e→bM F e:=fun e he x hx=>by
   obtain ⟨cs',hc⟩:=he x hx
   have hxc:x ≠ cs:=fun e=>by subst e;exact hC.hno _ hc
   rw [← hC.other hxc] at hc
   exact ⟨cs',hFo x _ hxc hc rfl⟩
  rcases h.slot' i d hd with ⟨h1,h2⟩|⟨⟨k,p,u,k1,k2,k3,k4,k5⟩,hnx⟩
  ·by_cases hic:i=cs
   ·subst hic
    obtain rfl:=hC.at_cs h2
    exact SlotRep.of (.fz (.any _)) fun t ht=>by cases ht
   ·rw [hC.other hic] at h2
    have hs:=hF.slot i d v h2 (h1.symm.trans hv)
    cases d with
    |al x=>
     obtain ⟨g1,d',g2,g3,g4⟩:=hs
     have hxc:x ≠ cs:=fun e=>hnc (by rw [e])
     rw [← hC.other hxc] at g2
     obtain ⟨q1,q2⟩:=h.own x d' g2 g3
     exact ⟨q2.trans g1,d',hFo x d' hxc g2 g3,g3,g4⟩
    |alc x o=>exact absurd (hC.nonm i _ h2) (fun e=>by cases e)
    |el x o sz k j=>exact absurd (hC.nonm i _ h2) (fun e=>by cases e)
    |es x sz k j=>exact absurd (hC.nonm i _ h2) (fun e=>by cases e)
    |_=>exact ⟨hR.rep hF.wf (.inr rfl) hC.hno hic hs.1 hs.2,hrk _ hs.2⟩
  ·obtain rfl:u=v:=Option.some.inj (k3.symm.trans hv)
   have h2:=(hf _ (aK k4)).2
   cases d with
   |al x=>
    rcases (k5:zHH fr0 cs x) with ⟨rfl,_⟩|⟨d',g2,g3⟩
    ·exact absurd rfl hnc
    ·have hxc:x ≠ cs:=fun e=>hnc (by rw [e])
     obtain ⟨q1,q2⟩:=h.own x d' g2 g3
     have hg2:=g2
     rw [hC.other hxc] at hg2
     obtain ⟨v',hv',_⟩:=hF.at hg2
     simp only at h2
     rw [cY hv'] at h2
     subst h2
     refine ⟨q2.trans hv',d',hFo x d' hxc g2 g3,g3,fun e => ?_⟩
     subst e
     rw [q1] at hd
     cases hd
     cases g3
   |ref x off=>
    obtain ⟨ds,hds⟩:=(k5:∃ c,fr0[x]?=some (.obj c))
    have hxc:x ≠ cs:=fun e=>by subst e;have:=hC.at_cs hds;cases this
    have hob:=hC.refOwn hR (.inr rfl) hds
    simp only at h2
    rw [lJ,← hob.2] at h2
    rw [h2]
    exact ⟨.ref hob.1,fun t ht=>by cases ht;exact ⟨ds,hFo x _ hxc hds rfl⟩⟩
   |gref c1 x off=>
    obtain ⟨ds,hds⟩:=(k5:∃ c,fr0[x]?=some (.obj c))
    have hxc:x ≠ cs:=fun e=>by subst e;have:=hC.at_cs hds;cases this
    have hob:=hC.refOwn hR (.inr rfl) hds
    simp only at h2
    rw [lJ,← hob.2] at h2
    exact ⟨.gref hob.1 h2,fun t ht=>by cases ht;exact ⟨ds,hFo x _ hxc hds rfl⟩⟩
   |obj x=>
    obtain ⟨c',hc'⟩:=hnob i x hd
    exact absurd hc' (hnx x rfl c')
   |alc x o=>
    obtain ⟨ds,hds⟩:=(k5:∃ c,fr0[x]?=some (.obj c))
    have hxc:x ≠ cs:=fun e=>by subst e;have:=hC.at_cs hds;cases this
    have hob:=hC.refOwn hR (.inr rfl) hds
    have h2:w.cell? ⟨(sg S l.toArray c cs k).loc (x+2),o,none⟩=some u:=h2
    rw [lJ,← hob.2] at h2
    exact ⟨⟨⟨ds,hFo x _ hxc hds rfl⟩,hob.1⟩,h2⟩
   |el x o sz k0 j=>
    obtain ⟨ds,hds⟩:=(k5:∃ c,fr0[x]?=some (.obj c))
    have hxc:x ≠ cs:=fun e=>by subst e;have:=hC.at_cs hds;cases this
    have hob:=hC.refOwn hR (.inr rfl) hds
    obtain ⟨s,h3,h4⟩:∃ s,w.cell? ⟨(sg S l.toArray c cs k).loc (x+2),o,none⟩=some s∧zAe s sz k0 j u:=h2
    rw [lJ,← hob.2] at h3
    exact ⟨⟨⟨ds,hFo x _ hxc hds rfl⟩,hob.1⟩,s,h3,h4⟩
   |es x sz k j=>exact absurd (h2:Fz _ _ _ _) (fun e=>by cases e)
   |nsl sz n z=>cases hnew i _ hd
   |nagg cs' off sz n z=>cases hnew i _ hd
   |_=>exact ⟨.fz (zLU (.inr rfl) (fun _=>rfl) h2),fun t ht=>(Fz.men h2 ht).elim⟩
 refine ⟨⟨hwf,by simp [h.size],h.defers,fun i d v hd hv => ?_⟩,fun hn=>⟨hwf,h.size,h.defers,fun i d v hd hv=>key fr (fun u d _ h1 h2=>(h.own u d h1 h2).1) i d v hd hv fun e => ?_⟩⟩
 ·rw [List.getElem?_map] at hd
  cases hfi:fr[i]? with
  |none=>rw [hfi] at hd;cases hd
  |some e=>
   rw [hfi] at hd
   cases hd
   by_cases hnc:e=.al cs
   ·subst hnc
    simp only [bI,if_pos]
    exact SlotRep.of (.fz (.any _)) fun t ht=>by cases ht
   ·have hk:=key (fr.map (bI cs .any)) (fun u d _ h1 h2=>by
     rw [List.getElem?_map,(h.own u d h1 h2).1]
     cases d<;>first|rfl|cases h2) i e v hfi hv hnc
    have he:bI cs .any e=e:=by
     cases e with
     |al x=>simp only [bI];rw [if_neg (fun e'=>hnc (by rw [e']))]
     |es x sz k j=>
      exfalso
      rcases h.slot' i _ hfi with ⟨_,h2⟩|⟨⟨k,p,u,k1,k2,k3,k4,k5⟩,_⟩
      ·by_cases hic:i=cs
       ·subst hic
        cases hC.at_cs h2
       ·rw [hC.other hic] at h2
        exact absurd (hC.nonm i _ h2) (fun e=>by cases e)
      ·have h2:=(hf _ (aK k4)).2
       exact absurd (h2:Fz _ _ _ _) (fun e=>by cases e)
     |_=>rfl
    rw [he]
    exact hk
 ·subst e
  rcases h.slot i _ hd with ⟨h1,h2⟩|⟨k,p,u,k1,k2,k3,k4,k5⟩
  ·have hic:i ≠ cs:=fun e=>by subst e;rw [hn] at h2;cases h2
   rw [hC.other hic] at h2
   obtain ⟨g1,d',g2,g3,g4⟩:=hF.slot i _ v h2 (h1.symm.trans hv)
   rw [hC.hX,List.getElem?_set] at hn
   simp only [if_true] at hn
   split at hn
   ·cases hn
   ·rename_i hlt
    exact hlt (bC g2)
  ·rcases (k5:zHH fr0 cs cs) with ⟨_,e,he⟩|⟨d',g2,_⟩
   ·rw [hn] at he;cases he
   ·rw [hn] at g2;cases g2
def kT (t:Nat) (d:D):D:=
 match d with
 |.ref u o=>match Nat.beq u t with
  |true=>.any
  |false=>.ref u o
 |.al u=>match Nat.beq u t with
  |true=>.any
  |false=>.al u
 |.gd c d=>match d.flat with
  |true=>.gd c d
  |false=>.any
 |d=>match d.flat with
  |true=>d
  |false=>.any
def yH (t:Nat):List Nat→Bool
 |[]=>false
 |x::r=>Nat.beq t x || yH t r
theorem yG {t:Nat}:∀ {l:List Nat},yH t l=true↔t ∈ l
 |[]=>by simp [yH]
 |x::r=>by simp [yH,yG (l:=r)]
def mV (fr0:List D) (i:Nat):Bool:=match fr0[i]? with
 |some d=>d.owns
 |none=>false
def jA (t:Nat) (wr:List Nat) (fr0:List D):Nat→List D→List D
 |_,[] => []
 | i,d::r=>(match yH i wr && !(Nat.beq i t || mV fr0 i) with
  |true=>kT t d
  | false=>d)::jA t wr fr0 (i+1) r
theorem yQ {t:Nat} {wr:List Nat} {fr0:List D}:∀ {l:List D} {i j:Nat},(jA t wr fr0 i l)[j]?=l[j]?.map fun d=>match yH (i+j) wr && !(Nat.beq (i+j) t || mV fr0 (i+j)) with
  |true=>kT t d
  |false=>d
 |[],i,j=>by simp [jA]
 |d::r,i,0=>by simp [jA]
 |d::r,i,j+1=>by
  rw [jA,List.getElem?_cons_succ,List.getElem?_cons_succ,yQ (l:=r),show i+1+j=i+(j+1) by omega]
theorem zBa {t:Nat} {wr:List Nat} {fr0:List D}:∀ {l:List D} {i:Nat},(jA t wr fr0 i l).length=l.length
 |[],i=>rfl
 |d::r,i=>by simp [jA,zBa (l:=r)]
def oC (fr0 fr:List D):List Nat→Option Nat
 |[]=>none
 |t::r=>match fr[t]? with
  |some (.obj _)=>match fr0[t]? with
   |some (.obj _)=>oC fr0 fr r
   |_=>some t
  |_=>oC fr0 fr r
theorem rA {fr0 fr:List D} {t:Nat}:∀ {wr:List Nat},oC fr0 fr wr=some t→(∃ x,fr[t]?=some (.obj x))∧∀ c',fr0[t]? ≠ some (.obj c')
 |[],h=>by cases h
 |u::r,h=>by
  unfold oC at h
  split at h
  ·rename_i x hx
   split at h
   ·exact rA h
   ·rename_i hno
    cases h
    exact ⟨⟨x,hx⟩,fun c' e=>hno c' e⟩
  ·exact rA h
theorem rB {fr0 fr:List D}:∀ {wr:List Nat},oC fr0 fr wr=none→∀ t ∈ wr,∀ x,fr[t]?=some (.obj x)→∃ c',fr0[t]?=some (.obj c')
 |[],_,t,ht,_,_=>by cases ht
 |u::r,h,t,ht,x,hx=>by
  unfold oC at h
  split at h
  ·rename_i y hy
   split at h
   ·rename_i c' hc'
    rcases List.mem_cons.1 ht with rfl|ht
    ·exact ⟨c',hc'⟩
    ·exact rB h t ht x hx
   ·cases h
  ·rename_i hno
   rcases List.mem_cons.1 ht with rfl|ht
   ·exact absurd hx (hno x)
   ·exact rB h t ht x hx
def nL (ops:List Oper):List Nat:=ops.filterMap (·.dst)
theorem QInv.nob {fr0 fr:List D} {pre:List Oper} (h:QInv S l.toArray c cs n0 a0 fr0 pre fs a fr) (hn:oC fr0 fr (nL pre)=none):∀ (i:Nat) (x:List D),fr[i]?=some (D.obj x)→∃ c':List D,fr0[i]?=some (D.obj c'):=fun i x hx=>by
 rcases h.slot' i _ hx with ⟨_,h2⟩|⟨⟨k,p,u,k1,k2,_⟩,_⟩
 ·exact ⟨x,h2⟩
 ·exact rB hn i (List.mem_filterMap.2 ⟨p,aK k1,k2⟩) x hx
theorem zDp (t:Nat) (d:D):kT t d=.any∨(kT t d=d∧((∃ u o,d=.ref u o∧u ≠ t)∨(∃ u,d=.al u∧u ≠ t)∨(∃ c e,d=.gd c e∧e.flat=true)∨d.flat=true)):=by
 have flat:∀ {e:D},kT t e=(match e.flat with|true=>e|false=>.any)→kT t e=.any∨(kT t e=e∧((∃ u o,e=.ref u o∧u ≠ t)∨(∃ u,e=.al u∧u ≠ t)∨(∃ c x,e=.gd c x∧x.flat=true)∨e.flat=true)):=fun {e} h=>by
  cases hf:e.flat with
  |true=>rw [hf] at h;exact .inr ⟨h,.inr (.inr (.inr rfl))⟩
  |false=>rw [hf] at h;exact .inl h
 cases d with
 |ref u o=>
  cases hb:Nat.beq u t with
  |true=>exact .inl (by simp only [kT,hb])
  |false=>exact .inr ⟨by simp only [kT,hb],.inl ⟨u,o,rfl,fun e=>by subst e;simp at hb⟩⟩
 |al u=>
  cases hb:Nat.beq u t with
  |true=>exact .inl (by simp only [kT,hb])
  |false=>exact .inr ⟨by simp only [kT,hb],.inr (.inl ⟨u,rfl,fun e=>by subst e;simp at hb⟩)⟩
 |gd c e=>
  cases hb:e.flat with
  |true=>exact .inr ⟨by simp only [kT,hb],.inr (.inr (.inl ⟨c,e,rfl,hb⟩))⟩
  |false=>exact .inl (by simp only [kT,hb])
 |_=>exact flat rfl
theorem QInv.frN (B2:Option (Nat × Place)) {frF fr0 fr:List D} {pre:List Oper} (h:QInv S l.toArray c cs w0.heap.size a0 fr0 pre fs a fr) (hC:QC S l c cs a0 frF fr0 w0) (hcs:frF[cs]?=none) (hR:Rw S cs w0 w) (hf:∀ f ∈ fs,f w) {t:Nat} (ht:oC fr0 fr (nL pre)=some t) (ht0:t ≠ 0)
  (hB:∀ b2 q2,B2=some (b2,q2)→w0.heap.size≤b2∧∃ cur e,w.heap[b2]?=some (.cells cur e (0,0))∧∀ (zc:List Value),fr[t]?=some (.obj (cX zc))→cur ≠ zc.toArray):
  ∃ S',Trans S w0 S' w∧FR S' w a (jA t (nL pre) fr0 0 fr)∧∀ b2 q2,B2=some (b2,q2)→S'.own b2=some (q2,0):=by
 have hF:=hC.hF
 have h00:fr0=frF:=by rw [hC.hX,List.set_eq_of_length_le (List.getElem?_eq_none_iff.1 hcs)]
 obtain ⟨⟨x,hx⟩,hno⟩:=rA ht
 obtain ⟨b,e,zc,v,hv,rfl,hb0,hbo,hbh,rfl,hz⟩:∃ (b:Nat) (e:TypeId) (zc:List Value) (v:Value),a.tmps[t]?=some v∧v=.pointer (some ⟨b,0,none⟩)∧w0.heap.size≤b∧(S.drop cs).own b=none∧w.heap[b]?=some (.cells zc.toArray e (0,0))∧x=cX zc∧zc.all Value.oneCell'=true:=by
  rcases h.slot' t _ hx with ⟨_,h2⟩|⟨⟨k,p,v,k1,k2,k3,k4,k5⟩,_⟩
  ·exact absurd h2 (hno x)
  ·obtain ⟨b,e,zc,g1,g2,g3,g4,g5,g6⟩:=(hf _ (aK k4)).2
   refine ⟨b,e,zc,v,k3,g1,g2,?_,g4,g5,g6⟩
   cases hb:(S.drop cs).own b with
   |none=>rfl
   |some y=>have:=hF.wf b y (gO hb).1;omega
 have t0:=hR.to (S':=S.drop cs) (.inr rfl)
 obtain ⟨own2,ho2⟩:∃ f:Nat→Option (Place × Nat),f=fun k=>B2.elim ((S.drop cs).own k) fun y=>if k=y.1 then some (y.2,0) else (S.drop cs).own k:=⟨_,rfl⟩
 have hold2:∀ k,k < w0.heap.size→own2 k=(S.drop cs).own k:=fun k hk=>by
  rw [ho2]
  cases hB2:B2 with
  |none=>rfl
  |some y=>
   have:=(hB y.1 y.2 (by rw [hB2])).1
   simp only [Option.elim]
   rw [if_neg (by omega)]
 have hlt2:∀ k y,own2 k=some y→(S.drop cs).own k=some y∨k < w.heap.size:=fun k y hy=>by
  rw [ho2] at hy
  cases hB2:B2 with
  |none=>rw [hB2] at hy;exact .inl hy
  |some y2=>
   rw [hB2] at hy
   simp only [Option.elim] at hy
   split at hy
   ·rename_i hk
    obtain ⟨_,cur,e',h3,_⟩:=hB y2.1 y2.2 (by rw [hB2])
    exact .inr (by rw [hk];exact (Array.getElem?_eq_some_iff.1 h3).1)
   ·exact .inl hy
 let S':Sig:=⟨fun k=>if k=b then some (.slot t,0) else own2 k,fun r=>if r=t+2 then b else S.loc r⟩
 have hold:∀ k,k < w0.heap.size→S'.own k=(S.drop cs).own k:=fun k hk=>(if_neg (by omega)).trans (hold2 k hk)
 have hwd:=hC.wf hR (S':=S.drop cs) (.inr rfl)
 have hblt:b < w.heap.size:=(Array.getElem?_eq_some_iff.1 hbh).1
 have hwf:WF S' w:=⟨fun k y hy=>by
  by_cases hkb:k=b
  ·subst hkb;exact hblt
  ·have:own2 k=some y:=by simpa [S',hkb] using hy
   rcases hlt2 k y this with h1|h1
   ·exact hwd k y h1
   ·exact h1,hF.wf.gl.keep fun k hk hn=>by
  rw [hold k hk]
  exact t0.free k hk hn⟩
 have htr:Trans S w0 S' w:=⟨t0.os,t0.tape,t0.output,t0.size,fun k hk hn=>by rw [hold k hk];exact t0.free k hk hn,fun k p q hk hs hd=>by rw [hold k hk];exact t0.foreign k p q hk hs hd,fun k p q hk hs=>by rw [hold k hk];exact t0.held k p q hk hs,if_neg (by omega)⟩
 have hxt:∀ u c',frF[u]?=some (.obj c')→u ≠ t:=fun u c' hu e=>by subst e;rw [← h00] at hu;exact hno c' hu
 have hlc:∀ {u:Nat},u ≠ t→S'.loc (u+2)=S.loc (u+2):=fun hu=>if_neg (by omega)
 have keep:∀ {i:Nat} {v:Value} {d:D},i ≠ t→i ≠ cs→Rep S w0 (.slot i) v d→bM frF d→Rep S' w (.slot i) v d:=fun {i v d} hit hic hr hk=>by
  have old:∀ k q m,S.own k=some (q,m)→q.r ≠ cs+2→w.heap[k]?=w0.heap[k]?∧S'.own k=some (q,m):=fun k q m hs hq=>by
   have hm:gR cs (S.own k)=false:=by rw [hs];simp [gR,hq]
   have hk:=hF.wf _ _ hs
   refine ⟨hR.same k hk hm,?_⟩
   rw [hold k hk,pA hm,hs]
  refine hr.trans hF.wf htr (by simp [S']) (fun k q m hs hu=>old k q m hs fun e => ?_) (fun _=>hlc hit) fun u hm ho => ?_
  ·have:=hu.1
   simp only [Place.slot] at this
   omega
  ·obtain ⟨c',hc'⟩:=hk u hm
   refine ⟨hlc (hxt u c' hc'),(old _ _ _ ho fun e => ?_).2⟩
   simp only [Place.slot] at e
   have:u=cs:=by omega
   subst this
   rw [hcs] at hc'
   cases hc'
 have hat:∀ i,(jA t (nL pre) fr0 0 fr)[i]?=fr[i]?.map fun d=>match yH i (nL pre) && !(Nat.beq i t || mV fr0 i) with
   |true=>kT t d
   |false=>d:=fun i=>by rw [yQ,Nat.zero_add]
 -- owners stay
 have hown:∀ (u:Nat) (d:D),fr0[u]?=some d→d.owns=true→(jA t (nL pre) fr0 0 fr)[u]?=some d∧a.tmps[u]?=a0.tmps[u]?:=fun u d hd ho=>by
  obtain ⟨g1,g2⟩:=h.own u d hd ho
  refine ⟨?_,g2⟩
  have:mV fr0 u=true:=by simp [mV,hd,ho]
  rw [hat,g1,this]
  simp
 have hrk:∀ d,bM frF d→bM (jA t (nL pre) fr0 0 fr) d:=fun d hd u hu=>by
  obtain ⟨c',hc'⟩:=hd u hu
  rw [← h00] at hc'
  exact ⟨c',(hown u _ hc' rfl).1⟩
 have fin2:∀ b2 q2,B2=some (b2,q2)→S'.own b2=some (q2,0):=fun b2 q2 hB2=>by
  obtain ⟨_,cur,e',h3,h4⟩:=hB b2 q2 hB2
  have hne:b2 ≠ b:=fun e2=>by
   subst e2
   rw [hbh] at h3
   cases h3
   exact h4 zc hx rfl
  show (if b2=b then _ else own2 b2)=_
  rw [if_neg hne,ho2,hB2]
  simp
 refine ⟨S',htr,⟨hwf,by rw [zBa];exact h.size,h.defers,fun i d v' hd hv' => ?_⟩,fin2⟩
 rw [hat] at hd
 cases hfi:fr[i]? with
 |none=>rw [hfi] at hd;cases hd
 |some d0=>
  rw [hfi] at hd
  simp only [Option.map_some,Option.some.injEq] at hd
  by_cases hit:i=t
  ·subst hit
   rw [show Nat.beq i i=true by simp] at hd
   simp only [Bool.true_or,Bool.not_true,Bool.and_false] at hd
   subst hd
   rw [hx] at hfi
   cases hfi
   rw [hv] at hv'
   cases hv'
   refine SlotRep.of (.obj (by simp [S',Place.slot]) rfl (by simp [S']) hbh (by simp [cX]) (fun j y hj => ?_) fun j d y hj hy=>.fz ?_) fun u hu => ?_
   ·have:=Array.mem_of_getElem? hj
    exact List.all_eq_true.1 hz y (by simpa using this)
   ·have hc:=CR.zero (lim:=S'.lim) (w:=w) hz
    exact hc.fz j d y hj (by simpa using hy)
   ·have hc:=CR.zero (lim:=S'.lim) (w:=w) hz
    cases hu with
    |obj hj hm=>exact ((hc.fz _ _ _ hj (List.getElem?_eq_getElem (gM hc.len hj))).men hm).elim
  ·-- a slot that is as it was
   have left:a.tmps[i]?=a0.tmps[i]?→fr0[i]?=some d0→SlotRep S' w a (jA t (nL pre) fr0 0 fr) i v' d0:=fun h1 h2=>by
    rw [h00] at h2
    have hic:i ≠ cs:=fun e=>by subst e;rw [hcs] at h2;cases h2
    have hs:=hF.slot i d0 v' h2 (h1.symm.trans hv')
    cases d0 with
    |al u=>
     obtain ⟨g1,d',g2,g3,g4⟩:=hs
     rw [← h00] at g2
     obtain ⟨q1,q2⟩:=hown u d' g2 g3
     exact ⟨q2.trans g1,d',q1,g3,g4⟩
    |alc x o=>exact absurd (hC.nonm i _ h2) (fun e=>by cases e)
    |el x o sz k j=>exact absurd (hC.nonm i _ h2) (fun e=>by cases e)
    |es x sz k j=>exact absurd (hC.nonm i _ h2) (fun e=>by cases e)
    |_=>exact ⟨keep hit hic hs.1 hs.2,hrk _ hs.2⟩
   have anyOk:SlotRep S' w a (jA t (nL pre) fr0 0 fr) i v' .any:=SlotRep.of (.fz (.any _)) fun u hu=>by cases hu
   have hcase:d=.any∨(d=d0∧((yH i (nL pre)=false∨mV fr0 i=true)∨((∃ u o,d0=.ref u o∧u ≠ t)∨(∃ u,d0=.al u∧u ≠ t)∨(∃ c e,d0=.gd c e∧e.flat=true)∨d0.flat=true))):=by
    split at hd
    ·rcases zDp t d0 with h1|⟨h1,h2⟩
     ·exact .inl (hd.symm.trans h1)
     ·exact .inr ⟨hd.symm.trans h1,.inr h2⟩
    ·rename_i hm
     refine .inr ⟨hd.symm,.inl ?_⟩
     cases hmm:yH i (nL pre) with
     |false=>exact .inl rfl
     |true=>
      right
      have:Nat.beq i t=false:=by
       cases hb:Nat.beq i t with
       |false=>rfl
       |true=>exact absurd (Nat.eq_of_beq_eq_true hb) hit
      rw [hmm,this] at hm
      simpa using hm
   rcases hcase with rfl|⟨rfl,hwhy⟩
   ·exact anyOk
   ·rcases h.slot' i _ hfi with ⟨h1,h2⟩|⟨⟨k,p,u,k1,k2,k3,k4,k5⟩,hnx⟩
    ·exact left h1 h2
    ·obtain rfl:u=v':=Option.some.inj (k3.symm.trans hv')
     have h2:=(hf _ (aK k4)).2
     have hin:yH i (nL pre)=true:=yG.2 (List.mem_filterMap.2 ⟨p,aK k1,k2⟩)
     rcases hwhy with (hw1|hw1)|hw1
     ·rw [hin] at hw1;cases hw1
     ·unfold mV at hw1
      split at hw1
      ·rename_i d1 hd1
       obtain ⟨q1,q2⟩:=h.own i d1 hd1 hw1
       rw [hfi] at q1
       cases q1
       exact left q2 hd1
      ·cases hw1
     ·rcases hw1 with ⟨y,o,rfl,hyt⟩|⟨y,rfl,hyt⟩|⟨cc,ee,rfl,hfl⟩|hfl
      ·obtain ⟨ds,hds⟩:=(k5:∃ c,fr0[y]?=some (.obj c))
       have hob:=hC.refOwn hR (S':=S.drop cs) (.inr rfl) hds
       simp only at h2
       rw [lJ] at h2
       rw [h2]
       have ho:S.own (S.loc (y+2))=some (.slot y,0):=by
        have:=hob.1
        rw [hob.2] at this
        exact (gO this).1
       have ho':S'.own (S'.loc (y+2))=some (.slot y,0):=by
        rw [hlc hyt,hold _ (hF.wf _ _ ho)]
        have:=hob.1
        rw [hob.2] at this
        exact this
       rw [← hlc hyt]
       exact ⟨.ref ho',fun z hz=>by cases hz;exact ⟨ds,(hown _ _ hds rfl).1⟩⟩
      ·rcases (k5:zHH fr0 cs y) with ⟨rfl,e,he⟩|⟨d',g2,g3⟩
       ·rw [h00,hcs] at he;cases he
       ·obtain ⟨q1,q2⟩:=hown y d' g2 g3
        have hg2:=g2
        rw [h00] at hg2
        obtain ⟨v2,hv2,_⟩:=hF.at hg2
        simp only at h2
        rw [cY hv2] at h2
        subst h2
        refine ⟨q2.trans hv2,d',q1,g3,fun e => ?_⟩
        subst e
        obtain ⟨q3,_⟩:=h.own _ _ g2 g3
        rw [hfi] at q3
        cases q3
        cases g3
      ·have hg:=(Rep.fz (p:=.dead) h2:Rep _ w _ _ (.gd cc ee)).gd_inv
       exact ⟨.fz (.gd (fun hc=>zB3 (.fz (p:=.dead) (hg.1 hc)) hfl) hg.2),fun z hz=>by cases hz⟩
      ·have hfz:∀ {lim:Nat→Option Nat},Fz lim w u d:=fun {lim}=>by
        cases d with
        |al y=>exact Bool.noConfusion (show false=true from hfl)
        |ref y o=>exact Bool.noConfusion (show false=true from hfl)
        |obj y=>exact Bool.noConfusion (show false=true from hfl)
        |gref c y o=>exact Bool.noConfusion (show false=true from hfl)
        |alc y o=>exact Bool.noConfusion (show false=true from hfl)
        |el y o sz k j=>exact Bool.noConfusion (show false=true from hfl)
        |es y sz k j=>exact Bool.noConfusion (show false=true from hfl)
        |nsl sz n z=>exact Bool.noConfusion (show false=true from hfl)
        |nagg cs' off sz n z=>exact Bool.noConfusion (show false=true from hfl)
        |_=>exact zB3 (Rep.fz (p:=.dead) h2) hfl
       have hmen:∀ z,¬ Men z d:=fun z hz=>((hfz (lim:=S.lim)).men hz).elim
       refine SlotRep.of (.fz hfz) fun z hz=>(hmen z hz).elim
theorem zLL (hw:WF S w) (ht:Trans (S.hand u) w S' w'):Rw S u w w':=by
 refine ⟨ht.os,ht.tape,ht.output,ht.size,fun b hb hn=>(gY ht hb hn).1,fun b q l hs hq => ?_⟩
 exact (ht.held b ⟨2,q.path⟩ l (hw b _ hs) (by simp [Sig.hand,hs,hq])).1
theorem QC.rw_cell {frF fr0:List D} (h:QC S l c cs a0 frF fr0 w0) (hx:Rw S cs w w') {ds:List D} {v:Value} (hd:fr0[u]?=some (.obj ds)) (hc:w.cell? ⟨S.loc (u+2),off,none⟩=some v):w'.cell? ⟨S.loc (u+2),off,none⟩=some v:=by
 have huc:u ≠ cs:=fun e=>by subst e;have:=h.at_cs hd;cases this
 have hob:=(h.refOwn (Rw.ext (Ext.refl w0)) (.inl rfl) hd).1
 rw [World.cell?_of_block (a:=⟨S.loc (u+2),off,none⟩) (w:=w) (hx.same _ (tH hc) (by rw [hob];simp [gR,Place.slot];omega))]
 exact hc
theorem zBz {ci:Nat} {frF fr0 fr:List D} {pre:List Oper} {d0:D} {K:D→Prop} (hC:QC S l ci cs a0 frF fr0 w0) (hpre:∀ (k:Nat) (p:Oper),pre[k]?=some p→l[k]?=some p) (ho:l[pre.length]?=some o) (hic:pre.length=ci)
  (hd0:∀ m sz rows,d0=.sl (m+1) sz rows→frF[cs]?=some d0) (hs:zEf P cs d0 fr0 fr o K):∃ d,K d∧uN fr0 cs d∧∀ (fs:List (World→Prop)) (a:Act),QInv S l.toArray ci cs n0 a0 fr0 pre fs a fr→∀ w,Ext w0 w→(∀ e ∈ o.after.toList,Region.binds .any e=true→(fs.getD e.on (fun _=>True)) w)→lF P l.toArray Q (Rw S cs) o (eD (S.drop cs) n0 a0 d) a w:=by
 have hops:∀ x ∈ o.op.operands.toList,∀ t,x=.tmp t→t ∈ o.looksAt l.toArray:=fun x hx t e=>by
  subst e
  exact List.mem_append_left _ (List.mem_filterMap.2 ⟨.tmp t,hx,rfl⟩)
 unfold zEf at hs
 split at hs
 ·exact hs.elim
 ·rename_i hg
  split at hs
  ·rename_i c hop
   split at hs
   ·rename_i f hcal
    split at hs
    ·rename_i t xs hargs
     split at hs
     ·rename_i hroot
      split at hs
      ·rename_i m sz rows
       have hdF:=hd0 m sz rows rfl
       obtain ⟨d,out,⟨d1,ds',rfl,hl,hp,hsem⟩,hput⟩:=hs.h
       split at hput
       ·rename_i hq
        rw [dT] at hput
        refine ⟨_,hput,zF1 hq,fun fs a hI w hx hf => ?_⟩
        have hopr:∀ y,y ∈ Operand.tmp t::xs→∀ t',y=.tmp t'→t' ∈ o.looksAt l.toArray:=fun y hy=>hops y (by
         rw [hop]
         simp only [Op.operands,Call.operands]
         have:y ∈ c.args.toList:=by rw [hargs];exact hy
         simp
         right
         simpa using this)
        have hev:a.eval (.tmp t)=a0.eval (.tmp cs):=by
         simp only [Bool.or_eq_true] at hroot
         rcases hroot with hb|hb
         ·rw [Nat.eq_of_beq_eq_true hb]
          simp [Act.eval,Array.getD_eq_getD_getElem?,hI.keep]
         ·split at hb
          ·rename_i u hd
           obtain rfl:=Nat.eq_of_beq_eq_true hb
           exact hI.evAl hC hpre ho (hopr _ (by simp) t rfl) hd hf
          ·cases hb
        have hw:=(PT.ext' hC.hF.wf hx).wf
        have hrep:Rep S w (.slot cs) (a.eval (.tmp t)) (.sl (m+1) sz rows):=by
         obtain ⟨v,hv,hsl⟩:=hC.hF.at hdF
         rw [hev,cY hv]
         exact (PT.ext' hC.hF.wf hx).rep hC.hF.wf hsl.1
        unfold lF
        rw [if_pos (by unfold Region.wanted;rw [hg])]
        refine fun K' hK=>.inl ?_
        obtain ⟨dst,op,ty,pos,after,guard⟩:=o
        obtain ⟨callee,args,argTypes⟩:=c
        simp only at hop hcal hargs
        subst hop;subst hcal
        obtain rfl:args=(.tmp t::xs).toArray:=Array.ext' hargs
        refine tX (ρ:=bX fr0 fr) hw rfl hrep (fun y hy=>hI.eval hC hpre ho (Rw.ext hx) (.inl rfl) (fun e he hb hlt=>absurd hic (zDl hC.hlate (by simpa using ho) he hb hlt).2) hf (hopr y (by simp [hy]))) hl hp hsem fun v S' w' hw' ht hrep' hout => ?_
        have hrw:=zLL hw ht
        refine hK (0,0,v) w' ⟨zF8 (hrw.wf hw),?_⟩ hrw
        have hz:=zM9 hw ht hrep' hq
        have hn:=uD hq
        have hn':=rK hq
        generalize fX d=e at hz hn hn' ⊢
        cases e with
        |al u=>exact absurd rfl (hn u)
        |ref u off=>exact absurd rfl (hn' u off)
        |obj x=>cases hz
        |gref c u off=>cases hz
        |alc u off=>cases hz
        |el u off sz k j=>cases hz
        |nsl sz n z=>cases hz
        |nagg cs' off sz n z=>cases hz
        |_=>exact hz
       ·exact hput.elim
      ·exact hs.elim
     ·exact hs.elim
    ·exact hs.elim
   ·exact hs.elim
  ·exact hs.elim
theorem zAw (hT:TOk P T Z) {S:Sig} {ci cs n0:Nat} {a0:Act} {frF fr0:List D} {l:List Oper} {w0:World} {d0:D} {Q:Exit→Act→World→Prop} {K:List D→Prop} (hC:QC S l ci cs a0 frF fr0 w0) (hd0:∀ m sz rows,d0=.sl (m+1) sz rows→frF[cs]?=some d0)
  (hn0:n0≤w0.heap.size) {L:List Oper} (hQ:∀ fr fs a w,K fr→Rw S cs w0 w→QInv S l.toArray ci cs n0 a0 fr0 L fs a fr→(∀ f ∈ fs,f w)→Q .normal a w):
  ∀ (r pre:List Oper) (fr:List D),pre++r=L→(∀ (k:Nat) (p:Oper),(pre++r)[k]?=some p→l[k]?=some p)→vcQ P T Z l ci cs d0 fr0 pre.length r fr K→∃ ss,∀ (fs:List (World→Prop)) (a:Act),QInv S l.toArray ci cs n0 a0 fr0 pre fs a fr→ParW P l.toArray Q (zAg S l.toArray ci cs) w0 pre.length r ss fs a
 | [],pre,fr,hL,_,hs=>⟨[],fun fs a hI=>fun w hx hf=>by
   rw [List.append_nil] at hL
   subst hL
   exact hQ fr fs a w hs hx hI hf⟩
 |o::r,pre,fr,hL,hpre,hs=>by
  have hpre':∀ (k:Nat) (p:Oper),pre[k]?=some p→l[k]?=some p:=fun k p hk=>hpre k p (by rw [List.getElem?_append_left (bC hk)];exact hk)
  have ho:l[pre.length]?=some o:=hpre _ o (by simp)
  have fin:∀ {d:D},(match o.dst with
   |none=>vcQ P T Z l ci cs d0 fr0 (pre.length+1) r fr K
   |some t=>match fr[t]? with
    |some d1=>match d1.owns || Nat.beq t cs with
     |false=>aN (fr.set t d) fun fr=>vcQ P T Z l ci cs d0 fr0 (pre.length+1) r fr K
     |true=>False
    | none=>False)→uN fr0 cs d→
    (∀ (fs:List (World→Prop)) (a:Act),QInv S l.toArray ci cs n0 a0 fr0 pre fs a fr→∀ w,(zAg S l.toArray ci cs).sees pre.length w0 w→(∀ e ∈ o.after.toList,Region.binds .any e=true→(fs.getD e.on (fun _=>True)) w)→lF P l.toArray Q ((zAg S l.toArray ci cs).does pre.length) o (eD (sg S l.toArray ci cs pre.length) n0 a0 d) a w)→
    ∃ ss,∀ (fs:List (World→Prop)) (a:Act),QInv S l.toArray ci cs n0 a0 fr0 pre fs a fr→ParW P l.toArray Q (zAg S l.toArray ci cs) w0 pre.length (o::r) ss fs a:=by
   intro d hK hal hstep
   have rest:∀ {fr':List D},((o.dst=none∧fr'=fr)∨∃ t d0,o.dst=some t∧fr[t]?=some d0∧d0.owns=false∧t ≠ cs∧fr'=fr.set t d)→vcQ P T Z l ci cs d0 fr0 (pre.length+1) r fr' K→∃ ss,∀ (fs:List (World→Prop)) (a:Act),QInv S l.toArray ci cs n0 a0 fr0 pre fs a fr→ParW P l.toArray Q (zAg S l.toArray ci cs) w0 pre.length (o::r) ss fs a:=by
    intro fr' hfr hv
    obtain ⟨ss,hss⟩:=zAw hT hC hd0 hn0 hQ r (pre ++ [o]) fr' (by simpa using hL) (fun k p hk=>hpre k p (by simpa using hk)) (by simpa using hv)
    refine ⟨eD (sg S l.toArray ci cs pre.length) n0 a0 d::ss,fun fs a hI=>⟨fun w hx hf=>hstep fs a hI w hx hf,fun hlate u w w' hx hf => ?_,fun u => ?_⟩⟩
    ·have e:sg S l.toArray ci cs pre.length=S:=by
      unfold sg
      have hl:eY l.toArray ci pre.length=false:=hlate
      rw [hl]
      rfl
     simp only [eD] at hf ⊢
     rw [e] at hf ⊢
     have hx':Rw S cs w w':=hx
     refine ⟨hx'.wf hf.1,?_⟩
     have h2:=hf.2
     cases d with
     |al u=>exact h2
     |ref u off=>exact h2
     |gref c u off=>exact h2
     |obj x=>
      obtain ⟨b,e,zc,g1,g2,g3,g4,g5⟩:=h2
      exact ⟨b,e,zc,g1,g2,g3,(hx'.same b (Array.getElem?_eq_some_iff.1 g4).1 (by rw [g3];rfl)).trans g4,g5⟩
     |alc y off=>
      obtain ⟨ds,hds⟩:=(hal:∃ c,fr0[y]?=some (.obj c))
      exact hC.rw_cell hx' hds h2
     |el y off sz k j=>
      obtain ⟨ds,hds⟩:=(hal:∃ c,fr0[y]?=some (.obj c))
      obtain ⟨s,h3,h4⟩:=h2
      exact ⟨s,hC.rw_cell hx' hds h3,h4⟩
     |nsl sz n z=>exact NewS.keep (fun b hb hn=>hx'.same b hb (by rw [hn];rfl)) h2
     |nagg cs' off sz n z=>exact NewA.keep (fun b hb hn=>hx'.same b hb (by rw [hn];rfl)) (fun h=>h.trans (hx'.to (.inl rfl))) h2
     |_=>exact h2.trans (hx'.to (.inl rfl))
    ·have:=hss _ _ (hI.step (v:=u.2.2) hal hfr)
     rw [List.length_append] at this
     exact this
   split at hK
   ·rename_i hn
    exact rest (.inl ⟨hn,rfl⟩) hK
   ·rename_i t ht
    split at hK
    ·rename_i d1 h0
     split at hK
     ·rename_i hd1
      simp only [Bool.or_eq_false_iff] at hd1
      rw [aD] at hK
      exact rest (.inr ⟨t,d1,ht,h0,hd1.1,fun e=>by subst e;simp at hd1,rfl⟩) hK
     ·exact hK.elim
    ·exact hK.elim
  unfold vcQ at hs
  simp only at hs
  split at hs
  ·rename_i hic
   have hne:pre.length ≠ ci:=fun e=>by rw [e] at hic;simp at hic
   obtain ⟨d,hK,hal,hstep⟩:=zCq hT hC hpre' ho (Q:=Q) hn0 hs
   refine fin hK hal fun fs a hI w hx hf => ?_
   have e1:(zAg S l.toArray ci cs).sees pre.length=Rw S cs:=if_neg hne
   have e2:(zAg S l.toArray ci cs).does pre.length=Ext:=if_neg hne
   rw [e1] at hx
   rw [e2]
   exact hstep fs a hI w hx hf
  ·rename_i hic
   have he:=Nat.eq_of_beq_eq_true hic
   obtain ⟨d,hK,hal,hstep⟩:=zBz hC hpre' ho he hd0 (Q:=Q) hs
   refine fin hK hal fun fs a hI w hx hf => ?_
   have e1:(zAg S l.toArray ci cs).sees pre.length=Ext:=if_pos he
   have e2:(zAg S l.toArray ci cs).does pre.length=Rw S cs:=if_pos he
   have e3:sg S l.toArray ci cs pre.length=S.drop cs:=by
    unfold sg eY
    rw [he]
    simp
   rw [e1] at hx
   rw [e2,e3]
   exact hstep fs a hI w hx hf
end
end Go.Proofs.YtnjgoldinaffgaaGreatDoor
