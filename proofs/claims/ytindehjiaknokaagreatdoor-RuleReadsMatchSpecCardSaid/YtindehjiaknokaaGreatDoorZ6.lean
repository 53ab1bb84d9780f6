/- Code on frames of data. Blocks that a walk by hand owns and writes. -/
import Derived.Test.YtindehjiaknokaaGreatDoorZ5
import Derived.Deep.LoopGhost
import Derived.Lib.SplitLaws
import Derived.Lib.IndexBytes
import Derived.Lib.IndexLaws
namespace Go.Proofs.YtindehjiaknokaaGreatDoor
set_option linter.unusedSimpArgs false
set_option linter.unusedVariables false
open Go.RowKit
variable {K:List D→Prop} {S:Sig} {a:Act} {w:World}
def prepR (ops:List Oper) (heads:List Nat) (fr:List D):List D:=
 ops.foldl (fun fr o=>match o.op with
  |.move x=>match o.dst with
   |some t=>match heads.contains t with
    |true=>fr
    |false=>down1 fr x
   |none=>fr
  | _=>fr) fr
def headsOf (M:Nat→Bool) (ops:List Oper):List Nat:=
 ops.filterMap fun o=>match o.op with
  |.call c=>match c.callee with
   |.builtin .append=>match c.args.toList with
    |.tmp h::_=>some h
    |_=>none
   |.value (.func f)=>match M (1000000+f) with
    |true=>match c.args.toList with
     |.tmp h::_=>some h
     |_=>none
    |false=>none
   |_=>none
  |_=>none
def srcOf (ops:List Oper) (t:Nat):Nat:=match ops with
 |[]=>t
 |o::r=>match o.dst with
  |some d=>match Nat.beq d t with
   |true=>match o.op with
    |.move (.tmp s)=>s
    |_=>t
   |false=>srcOf r t
  |none=>srcOf r t
def writerOf (M:Nat→Bool) (all:List Oper) (fr:List D):List Oper→Nat→Option (Nat × Nat × D)
 |[],_=>none
 |o::r,i=>match o.op with
  |.call c=>match c.callee with
   |.value (.func f)=>match M (1000000+f) with
    |true=>match c.args.toList with
     |.tmp t::_=>match fr[srcOf all t]? with
      |some (.sl (m+1) sz rows)=>some (i,srcOf all t,.sl (m+1) sz rows)
      |some (.al u)=>match fr[u]? with
       |some (.sl (m+1) sz rows)=>some (i,u,.sl (m+1) sz rows)
       |_=>writerOf M all fr r (i+1)
      |_=>writerOf M all fr r (i+1)
     |_=>writerOf M all fr r (i+1)
    |false=>writerOf M all fr r (i+1)
   |_=>writerOf M all fr r (i+1)
  |_=>writerOf M all fr r (i+1)
theorem writerOf_at {M:Nat→Bool} {all:List Oper} {fr:List D} {k cs:Nat} {d:D}:∀ {r:List Oper} {i:Nat},writerOf M all fr r i=some (k,cs,d)→fr[cs]?=some d∧∃ m sz rows,d=.sl (m+1) sz rows
 |[],i,h=>by cases h
 |o::r,i,h=>by
  unfold writerOf at h
  split at h
  ·split at h
   ·split at h
    ·split at h
     ·split at h
      ·cases h;exact ⟨by assumption,_,_,_,rfl⟩
      ·split at h
       ·cases h;exact ⟨by assumption,_,_,_,rfl⟩
       ·exact writerOf_at h
      ·exact writerOf_at h
     ·exact writerOf_at h
    ·exact writerOf_at h
   ·exact writerOf_at h
  ·exact writerOf_at h
def inB (ops:List Oper) (n:Nat):Bool:=ops.all fun o=>match o.dst with
 |some d=>decide (d < n)
 |none=>true
structure DrawR (ops:List Oper) (ok:Nat→Bool) (F:Nat→Prop):Prop where
 h:∃ m,ok m=true∧F m
theorem DrawR.go {ops:List Oper} {ok:Nat→Bool} {F:Nat→Prop} (m:Nat) (h1:ok m=true) (h2:F m):DrawR ops ok F:=⟨m,h1,h2⟩
def effOf:List Oper→Nat→Nat
 |[],n=>n
 |o::r,n=>match o.op with
  |.call c=>match c.callee with
   |.builtin .append | .builtin .copy | .builtin .delete=>n
   |_=>effOf r (n+1)
  |.store _ _ _ | .mapUpdate _ _ _ _=>n
  |.alloc _=>match o.after.toList with
   |[]=>match n with
    |0=>0
    |n+1=>effOf r (n+2)
   |_=>n
  |_=>effOf r (n+1)
structure Halt' (p:Prop):Prop where
 h:p
structure KerB (b:Bool) (F:Prop):Prop where
 h1:b=true
 h2:F
def naggAt (fr:List D):List Nat→Option Nat
 |[]=>none
 |t::r=>match fr[t]? with
  |some (.nagg _ _ _ _ _)=>some t
  |_=>naggAt fr r
def kindsOk (fr:List D) (t:Nat) (z:List D):Bool:=match fr[t]? with
 |some (.obj (.bool _::_))=>match z with
  |.int _ _::_=>true
  |_=>false
 |_=>false
def flatBut (cs:List D) (off:Nat):Bool:=(cs.set off (.bool true)).all D.flat1
def afterQ (fr0 fr:List D) (wr:List Nat) (K1 K:List D→Prop):Prop:=
 match newAt fr0 fr wr with
 |none=>match fr.any D.isNew with
  |true=>False
  |false=>K1 fr
 |some (t+1)=>match naggAt fr wr with
  |none=>forceL (keepL (t+1) wr fr0 0 fr) K
  |some t2=>match fr[t2]? with
   |some (.nagg cs off sz n z)=>match kindsOk fr (t+1) z && (flatBut cs off && (Nat.blt off cs.length && !(Nat.beq t2 (t+1) || ownsAt fr0 t2))) with
    |true=>forceL ((keepL (t+1) wr fr0 0 fr).set t2 (.agg (cs.set off (.sl 2 sz (List.replicate n z))))) K
    |false=>False
   |_=>False
 |some 0=>False
def elsAt:Nat→List D→List Nat
 |_,[] => []
 |i,.el _ _ _ _ _::r=>i::elsAt (i+1) r
 |i,_::r=>elsAt (i+1) r
def keep1 (frN:List D) (ops:List Oper) (fr:List D) (i:Nat):List D:=match frN[i]? with
 |some (.el u off sz k j)=>match fr[i]? with
  |some .any=>match ops.all fun o=>o.dst != some i with
   |true=>fr.set i (.el u off sz k j)
   |false=>fr
  |_=>fr
 |_=>fr
def keepN (frN:List D) (ops:List Oper) (fr:List D):List D:=(elsAt 0 frN).foldl (keep1 frN ops) fr
def keepK (frN:List D) (ops:List Oper) (fr:List D) (K:List D→Prop):Prop:=match frN.any D.nm3 with
 |true=>forceL (keepN frN ops fr) K
 |false=>K fr
def lowsF (M:Nat→Bool):List (Nat × Nat)→List D→List D
 |[],fr=>fr
 | (x,n)::r,fr=>lowsF M r (match M x with
  |true=>downC1 0 n fr
  | false=>fr)
def lows (M:Nat→Bool) (fr:List D):List D:=match fr with
 |.obj cs::r=>lowsF M [(10000000,0),(10000001,1),(10000002,2),(10000003,3),(10000004,4),(10000005,5),(10000006,6),(10000007,7),(10000008,8),(10000009,9)] (.obj cs::r)
 |fr=>fr
def vcRegion (P:Program) (T:Nat→Option TI) (Z:Nat→Option (List Value)) (M:Nat→Bool) (ops:List Oper) (draw:Bool) (fr:List D) (K:List D→Prop):Prop:=
 match draw with
 |false=>vcOps P T Z M ops ops fr K
 |true=>DrawR ops (fun m=>parOk ops.toArray && (tailOk ops.toArray m && (Nat.ble m ops.length && inB ops fr.length))) fun m=>
   forceL (prepR ops (headsOf M ops) (lows M fr)) fun frN=>forceL (dropN frN) fun fr0=>match writerOf M ops fr0 (ops.take m) 0 with
    |none=>vcQ P T Z ops ops.length fr0.length .any fr0 0 (ops.take m) fr0 fun fr'=>afterQ fr0 fr' (wrOf (ops.take m)) (fun fr'=>keepK frN (ops.take m) fr' fun fr'=>vcOps P T Z M ops (ops.drop m) fr' K) fun fr'=>vcOps P T Z M ops (ops.drop m) fr' K
    | some (k,cs,d)=>KerB (lateOk ops.toArray k) (forceL (fr0.set cs .any) fun frX=>vcQ P T Z ops k cs d frX 0 (ops.take m) frX fun fr'=>match newAt frX fr' (wrOf (ops.take m)) with
     |none=>match fr'.any D.isNew with
      |true=>False
      |false=>forceL (fr'.map (unal cs .any)) fun fr'=>vcOps P T Z M ops (ops.drop m) fr' K
     | some _=>False)
structure HT (P:Program) (c:Code) (fr:List D) (Q:Exit→List D→Prop):Prop where
 h:∀ (S:Sig) (w:World) (a:Act),FR S w a fr→∀ Q':Exit→Act→World→Prop,(∀ e fr' S' w' a',Q e fr'→Trans S w S' w'→FR S' w' a' fr'→Q' e a' w')→c.wp P Q' a w
def vc (P:Program) (T:Nat→Option TI) (Z:Nat→Option (List Value)) (M:Nat→Bool):Code→List D→(Exit→List D→Prop)→Prop
 |.skip,fr,Q=>Q .normal fr
 |.region id ops draw,fr,Q=>match draw && M (5000000+id) with
  |true=>vcI P T Z M ops.toList fr fun fr'=>Q .normal fr'
  |false=>vcRegion P T Z M ops.toList draw fr fun fr'=>Q .normal fr'
 |.seq x y,fr,Q=>vc P T Z M x fr fun e fr'=>match e with
  |.normal=>vc P T Z M y fr' Q
  |e=>Q e fr'
 |.cond c x y,fr,Q=>match evalD fr c with
  |.bool b=>CondD b (vc P T Z M x fr Q) (vc P T Z M y fr Q)
  |_=>False
 |.block id c,fr,Q=>vc P T Z M c fr fun e fr'=>match e with
  |.exit n=>match Nat.beq n id with
   |true=>Q .normal fr'
   |false=>Q (.exit n) fr'
  |e=>Q e fr'
 |.loop c,fr,Q=>Halt' (HT P (.loop c) fr Q)
 |.exit id,fr,Q=>Q (.exit id) fr
 |.ret,fr,Q=>Q .ret fr
 |_,_,_=>False
section
variable {P:Program} {T:Nat→Option TI} {Z:Nat→Option (List Value)} {M:Nat→Bool}
theorem prepR_sound (heads:List Nat) (ops:List Oper) {fr:List D} (h:FR S w a fr):∃ S',Trans S w S' w∧FR S' w a (prepR ops heads fr):=by
 refine fold_sound (fun S fr o h => ?_) ops S fr h
 split
 ·split
  ·split
   ·exact ⟨S,Trans.refl S w,h⟩
   ·exact down1_sound h _
  ·exact ⟨S,Trans.refl S w,h⟩
 ·exact ⟨S,Trans.refl S w,h⟩
theorem reach_out {l:Array Oper} (hok:parOk l=true) {c:Nat} (hc:l.size≤c):∀ (f i:Nat),reachB l f i c=false
 |0,_=>rfl
 |f+1,i=>by
  unfold reachB
  cases ho:l[i]? with
  |none=>rfl
  |some o=>
   simp only
   rw [Array.any_eq_false']
   intro e he
   simp only [Bool.and_eq_true,Bool.or_eq_true,beq_iff_eq,not_and]
   intro hb h
   have hlt:=parOk_before hok ho he hb
   have hi:=(Array.getElem?_eq_some_iff.1 ho).1
   rcases h with h|h
   ·omega
   ·rw [reach_out hok hc f e.on] at h
    cases h
theorem late_out {l:Array Oper} (hok:parOk l=true):lateOk l l.size=true:=by
 refine List.all_eq_true.2 fun i hi => ?_
 cases ho:l[i]? with
 |none=>rfl
 |some o=>
  refine Array.all_eq_true'.2 fun e he => ?_
  cases hb:Region.binds .any e with
  |false=>rfl
  |true=>
   have hlt:=parOk_before hok ho he hb
   have hi:=(Array.getElem?_eq_some_iff.1 ho).1
   have:lateOf l l.size e.on=false:=by
    unfold lateOf
    rw [reach_out hok (Nat.le_refl _)]
    simp
    omega
   rw [this]
   rfl
theorem nagg_end {cs n0c:Nat} {a0:Act} {frF fr0 fr:List D} {pre l:List Oper} {fs:List (World→Prop)} {w0:World} (h:QInv S l.toArray n0c cs w0.heap.size a0 fr0 pre fs a fr) (hC:QC S l n0c cs a0 frF fr0 w0) (hcs:frF[cs]?=none) (hR:Rw S cs w0 w) (hf:∀ f ∈ fs,f w) {t t2 off sz n:Nat} {cs2 z:List D} (ht:newAt fr0 fr (wrOf pre)=some (t+1)) (hd2:fr[t2]?=some (.nagg cs2 off sz n z))
  (hb:(kindsOk fr (t+1) z && (flatBut cs2 off && (Nat.blt off cs2.length && !(Nat.beq t2 (t+1) || ownsAt fr0 t2))))=true) (hk:K ((keepL (t+1) (wrOf pre) fr0 0 fr).set t2 (.agg (cs2.set off (.sl 2 sz (List.replicate n z)))))):
  ∃ fr'' S2,Trans S w0 S2 w∧FR S2 w a fr''∧K fr'':=by
 simp only [Bool.and_eq_true,Bool.not_eq_true',Bool.or_eq_false_iff] at hb
 obtain ⟨hkd,hfl,hlt,hne,hno⟩:=hb
 have hlt:off < cs2.length:=Nat.le_of_succ_le_succ (Nat.succ_le_succ (Nat.le_of_ble_eq_true hlt))
 have hne:t2 ≠ t+1:=fun e=>by subst e;simp at hne
 rcases h.slot' t2 _ hd2 with ⟨_,h2⟩|⟨⟨k,p,v,k1,k2,k3,k4,k5⟩,_⟩
 ·exfalso
  by_cases htc:t2=cs
  ·subst htc
   cases hC.at_cs h2
  ·rw [hC.other htc] at h2
   obtain ⟨v,hv,hs⟩:=hC.hF.at h2
   cases hs.1 with
   |fz h=>cases h
 ·have hA:NewA (sg S l.toArray n0c cs k) w0.heap.size cs2 off sz n z v w:=(hf _ (gMem k4)).2
  obtain ⟨us,u,rfl,hul,h1,huo,⟨b2,cap,cur,e,rfl,hb0,_,hbh,hn1,hnc,hcm,hcs2,hzl,hcells⟩,hrest⟩:=hA
  obtain ⟨S2,tr,f2,ho2⟩:=h.frN (some (b2,⟨t2+2,[off]⟩)) hC hcs hR hf ht (by omega) (fun b3 q3 e3=>by
   cases e3
   refine ⟨hb0,cur,e,hbh,fun zc hx he => ?_⟩
   unfold kindsOk at hkd
   rw [hx] at hkd
   cases zc with
   |nil=>simp [zeroD] at hkd
   |cons z0 zr=>
    cases z with
    |nil=>simp at hkd;split at hkd<;>simp at hkd
    |cons d dr=>
     obtain ⟨u0,q1,_,q3,q4⟩:=hcells 0 0 d (by omega) rfl
     rw [he] at q1
     simp at q1
     subst q1
     simp only [zeroD,List.map_cons] at hkd
     cases d with
     |int kk m=>cases q4;simp [ofVal] at hkd
     | _=>split at hkd<;>first|(cases hkd;done)|simp at hkd)
  have hown:=ho2 b2 _ rfl
  have hin:memN t2 (wrOf pre)=true:=memN_iff.2 (List.mem_filterMap.2 ⟨p,gMem k1,k2⟩)
  have hat:(keepL (t+1) (wrOf pre) fr0 0 fr)[t2]?=some .any:=by
   rw [keepL_at,Nat.zero_add,hd2,hin,hno]
   have:Nat.beq t2 (t+1)=false:=by
    cases hbq:Nat.beq t2 (t+1) with
    |false=>rfl
    |true=>exact absurd (Nat.eq_of_beq_eq_true hbq) hne
   rw [this]
   rfl
  have hrep:Rep S2 w (.slot t2) (.agg us.toArray) (.agg (cs2.set off (.sl 2 sz (List.replicate n z)))):=by
   refine .agg us (by rw [List.length_set];exact hul) h1 fun j d x hd hx => ?_
   by_cases hj:j=off
   ·subst hj
    rw [List.getElem?_set_self hlt] at hd
    cases hd
    rw [huo] at hx
    cases hx
    have hO:OwnAt S2 w ⟨t2+2,[j]⟩ b2 cap 2 sz (List.replicate n z) cur e:=by
     refine ⟨.inr rfl,hbh,by rw [List.length_replicate];exact hnc,hcm,hcs2,fun r hr=>by rw [(List.mem_replicate.1 hr).2];exact hzl,by rw [if_pos rfl];exact hown,fun k' r j' d' hk' hd' => ?_⟩
     have hkn:k' < n:=by have:=(List.getElem?_eq_some_iff.1 hk').1;simpa using this
     rw [List.getElem?_replicate,if_pos hkn] at hk'
     cases hk'
     obtain ⟨u',q1,q2,q3,q4⟩:=hcells k' j' d' hkn hd'
     exact ⟨u',q1,q2,flat1_any q3 q4⟩
    have:=Rep.own hO
    rw [List.length_replicate] at this
    exact this
   ·rw [List.getElem?_set_ne (Ne.symm hj)] at hd
    have hfd:d.flat1=true:=List.all_eq_true.1 hfl d (gMem (by rw [List.getElem?_set_ne (Ne.symm hj)];exact hd))
    exact .fz (flat1_any hfd (hrest j d x hj hd hx).2)
  refine ⟨_,S2,tr,f2.setD hat rfl k3 hrep (fun x hx => ?_),hk⟩
  cases hx with
  |agg hd hm=>
   rename_i j d
   by_cases hj:j=off
   ·subst hj
    rw [List.getElem?_set_self hlt] at hd
    cases hd
    exact (no_men_sl hm).elim
   ·rw [List.getElem?_set_ne (Ne.symm hj)] at hd
    have hfd:d.flat1=true:=List.all_eq_true.1 hfl d (gMem (by rw [List.getElem?_set_ne (Ne.symm hj)];exact hd))
    cases d with
    |int kk m=>cases hm
    |bool bb=>cases hm
    |str ss=>cases hm
    |_=>cases hfd
theorem isNew_no {fr:List D} (h:fr.any D.isNew=false) (i:Nat) (d:D) (hd:fr[i]?=some d):d.isNew=false:=by
 have:=List.any_eq_false.1 h d (gMem hd)
 simpa using this
theorem downC1_sound {fr:List D} (h:FR S w a fr) (u off:Nat):∃ S',Trans S w S' w∧FR S' w a (downC1 u off fr):=by
 unfold downC1
 split
 ·rename_i hd
  split
  ·rename_i hc;exact h.downC hd hc
  ·exact ⟨S,Trans.refl S w,h⟩
 ·exact ⟨S,Trans.refl S w,h⟩
theorem lowsF_sound {w:World} {a:Act} (M:Nat→Bool):∀ (L:List (Nat × Nat)) {S:Sig} {fr:List D},FR S w a fr→∃ S',Trans S w S' w∧FR S' w a (lowsF M L fr)
 |[],S,_,h=>⟨S,Trans.refl S w,h⟩
 |(x,n)::L,S,fr,h=>by
  unfold lowsF
  split
  ·obtain ⟨S1,t1,h1⟩:=downC1_sound h 0 n
   obtain ⟨S2,t2,h2⟩:=lowsF_sound M L h1
   exact ⟨S2,t1.trans t2,h2⟩
  ·exact lowsF_sound M L h
theorem lows_sound {fr:List D} (M:Nat→Bool) (h:FR S w a fr):∃ S',Trans S w S' w∧FR S' w a (lows M fr):=by
 unfold lows
 split
 ·exact lowsF_sound M _ h
 ·exact ⟨S,Trans.refl S w,h⟩
theorem SlotRep.setAny {fr:List D} {i j:Nat} {d e:D} {v:Value} (h0:fr[i]?=some .any) (h:SlotRep S w a fr j v e):SlotRep S w a (fr.set i d) j v e:=by
 have ne:∀ (u:Nat) (d':D),fr[u]?=some d'→d'.owns=true→(fr.set i d)[u]?=some d':=fun u d' hu ho=>by
  have:i ≠ u:=fun e=>by subst e;rw [h0] at hu;cases hu;cases ho
  rw [List.getElem?_set_ne this];exact hu
 have hob:∀ u,ObjAt S fr u→ObjAt S (fr.set i d) u:=fun u h=>by
  obtain ⟨⟨cs,hc⟩,ho⟩:=h
  exact ⟨⟨cs,ne u _ hc rfl⟩,ho⟩
 have hrk:∀ e,RefOk fr e→RefOk (fr.set i d) e:=fun e he x hx=>by
  obtain ⟨cs,hc⟩:=he x hx
  exact ⟨cs,ne x _ hc rfl⟩
 cases e with
 |al x=>
  obtain ⟨h1,d',h2,h3,h4⟩:=h
  exact ⟨h1,d',ne x _ h2 h3,h3,h4⟩
 |alc x o=>exact ⟨hob _ h.1,h.2⟩
 |el x o sz k j=>exact ⟨hob _ h.1,h.2⟩
 |es x sz k j=>
  obtain ⟨⟨d',h2,h3,h4⟩,h5⟩:=h
  exact ⟨⟨d',ne x _ h2 h3,h3,h4⟩,h5⟩
 |_=>exact ⟨h.1,hrk _ h.2⟩
theorem keep_sound {S:Sig} {cs:Nat} {w w':World} {a a':Act} {frN:List D} (ops:List Oper) (hFN:FR S w a frN) (hx:Rw S cs w w') (hcs:frN.length≤cs):∀ (L:List Nat) {fr:List D},FR (S.drop cs) w' a' fr→(∀ (u:Nat) (c:List D),frN[u]?=some (D.obj c)→∃ c',fr[u]?=some (D.obj c'))→(∀ i:Nat,(ops.all fun o=>o.dst != some i)=true→fr[i]?=some D.any→a'.tmps[i]?=a.tmps[i]?)→FR (S.drop cs) w' a' (L.foldl (keep1 frN ops) fr)
 |[],_,h,_,_=>h
 |i::L,fr,h,hob,htm=>by
  rw [List.foldl_cons]
  unfold keep1
  split
  ·rename_i u off sz k j hN
   split
   ·rename_i hany
    split
    ·rename_i hall
     have ht:=htm i hall hany
     obtain ⟨v,hv⟩:∃ v,a.tmps[i]?=some v:=by
      have hlt:i < frN.length:=(gLt hN)
      exact ⟨_,Array.getElem?_eq_getElem (by rw [hFN.size];exact hlt)⟩
     obtain ⟨⟨⟨c,hc⟩,how⟩,s,hs,hel⟩:=hFN.slot i _ v hN hv
     obtain ⟨c',hc'⟩:=hob u c hc
     have hul:u < frN.length:=(gLt hc)
     have hmine:mine cs (S.own (S.loc (u+2)))=false:=by
      rw [how]
      have:u ≠ cs:=by omega
      simp [mine,Place.slot,this]
     have hbl:=hx.same _ (cell_lt hs) hmine
     have hne:i ≠ u:=fun e=>by subst e;rw [hany] at hc';cases hc'
     have hnew:SlotRep (S.drop cs) w' a' (fr.set i (.el u off sz k j)) i v (.el u off sz k j):=by
      refine ⟨⟨⟨c',by rw [List.getElem?_set_ne hne];exact hc'⟩,?_⟩,s,?_,hel⟩
      ·show (S.drop cs).own (S.loc (u+2))=_
       rw [drop_own hmine]
       exact how
      ·show w'.cell? ⟨S.loc (u+2),off,none⟩=some s
       unfold World.cell? at hs ⊢
       rw [hbl]
       exact hs
     refine keep_sound ops hFN hx hcs L ⟨h.wf,by rw [List.length_set];exact h.size,h.defers,fun x d y hd hy => ?_⟩ (fun x c hxc => ?_) fun x hxa hxd => ?_
     ·by_cases hxi:x=i
      ·subst hxi
       have hlt:x < fr.length:=(gLt hany)
       rw [List.getElem?_set_self hlt] at hd
       cases hd
       rw [ht,hv] at hy
       cases hy
       exact hnew
      ·rw [List.getElem?_set_ne (Ne.symm hxi)] at hd
       exact (h.slot x d y hd hy).setAny hany
     ·obtain ⟨c2,h2⟩:=hob x c hxc
      have:i ≠ x:=fun e=>by subst e;rw [hany] at h2;cases h2
      exact ⟨c2,by rw [List.getElem?_set_ne this];exact h2⟩
     ·by_cases hxi:x=i
      ·subst hxi
       have hlt:x < fr.length:=(gLt hany)
       rw [List.getElem?_set_self hlt] at hxd
       cases hxd
      ·rw [List.getElem?_set_ne (Ne.symm hxi)] at hxd
       exact htm x hxa hxd
    ·exact keep_sound ops hFN hx hcs L h hob htm
   ·exact keep_sound ops hFN hx hcs L h hob htm
  ·exact keep_sound ops hFN hx hcs L h hob htm
theorem keepK_sound {cs:Nat} {w':World} {a':Act} {frN fr:List D} {ops:List Oper} (hFN:FR S w a frN) (hx:Rw S cs w w') (hcs:frN.length≤cs) (h:FR (S.drop cs) w' a' fr) (hob:∀ (u:Nat) (c:List D),frN[u]?=some (D.obj c)→∃ c',fr[u]?=some (D.obj c')) (htm:∀ i:Nat,(ops.all fun o=>o.dst != some i)=true→fr[i]?=some D.any→a'.tmps[i]?=a.tmps[i]?) (hk:keepK frN ops fr K):∃ fr',FR (S.drop cs) w' a' fr'∧K fr':=by
 unfold keepK at hk
 split at hk
 ·rw [forceL_eq] at hk
  exact ⟨_,keep_sound ops hFN hx hcs _ h hob htm,hk⟩
 ·exact ⟨_,h,hk⟩
theorem vcRegion_sound (hT:TOk P T Z) (hm:P.follows .mixedOrders=true) {id:Nat} {l:List Oper} {draw:Bool} {fr:List D} (h:vcRegion P T Z M l draw fr K) (hF:FR S w a fr) {Q:Exit→Act→World→Prop}
  (hK:∀ fr' S' w' a',K fr'→Trans S w S' w'→FR S' w' a' fr'→Q .normal a' w'):(Code.region id l.toArray draw).wp P Q a w:=by
 cases draw with
 |false=>exact wp_region_lit (vcOps_sound hT l hF h hK)
 |true=>
  obtain ⟨m,hb,hv⟩:=h.h
  rw [forceL_eq,forceL_eq] at hv
  simp only [Bool.and_eq_true] at hb
  obtain ⟨hpar,htail,hml,hin⟩:=hb
  obtain ⟨S0,t0,hF0⟩:=lows_sound M hF
  obtain ⟨S1,t1,hF1⟩:=prepR_sound (headsOf M l) l hF0
  replace t1:=t0.trans t1
  generalize prepR l (headsOf M l) (lows M fr)=frN at hv hF1
  have hFN:=hF1
  replace hF1:=hF1.dropN
  have hnm:∀ (i:Nat) (d:D),(dropN frN)[i]?=some d→d.nm3=false:=fun i d hd=>dropN_no hd
  have hlenN:frN.length=(dropN frN).length:=(dropN_len frN).symm
  have hobN:∀ u c,frN[u]?=some (D.obj c)→(dropN frN)[u]?=some (D.obj c):=fun u c h=>by rw [dropN_eq,List.getElem?_map,h];rfl
  generalize hfr1:dropN frN=fr1 at hv hF1 hnm hlenN hobN
  have hin':(l.all fun o=>match o.dst with|some d=>decide (d < a.tmps.size)|none=>true)=true:=by
   have:a.tmps.size=fr.length:=hF.size
   rw [this]
   exact hin
  have hpre:∀ (k:Nat) (p:Oper),([]++l.take m)[k]?=some p→l[k]?=some p:=fun k p hk=>by
   rw [List.nil_append,List.getElem?_take] at hk
   split at hk
   ·exact hk
   ·cases hk
  have go:∀ {ci cs:Nat} {d0:D} {fr0:List D} {K0:List D→Prop},QC S1 l ci cs a fr1 fr0 w→(∀ m sz rows,d0=.sl (m+1) sz rows→fr1[cs]?=some d0)→vcQ P T Z l ci cs d0 fr0 0 (l.take m) fr0 K0→
    (∀ fr' fs a' w',K0 fr'→Rw S1 cs w w'→QInv S1 l.toArray ci cs w.heap.size a fr0 (l.take m) fs a' fr'→(∀ f ∈ fs,f w')→∃ fr'' S2,Trans S1 w S2 w'∧FR S2 w' a' fr''∧vcOps P T Z M l (l.drop m) fr'' K)→(Code.region id l.toArray true).wp P Q a w:=by
   intro ci cs d0 fr0 K0 hC hd0 hq hend
   obtain ⟨ss,hss⟩:=vcQ_sound (Q:=tailQ P l m Q) hT hC hd0 (Nat.le_refl _) (L:=l.take m) (fun fr' fs a' w' hk hx hI hf=>by
    obtain ⟨fr'',S2,t2,hF',hk'⟩:=hend fr' fs a' w' hk hx hI hf
    show wpList P l.toArray (NoPanic Q) (l.drop m) a' w'
    exact vcOps_sound hT _ hF' hk' fun fr'' S'' w'' a'' k t f=>NoPanic.normal (hK fr'' S'' w'' a'' k (t1.trans (t2.trans t)) f)) (l.take m) [] fr0 (by simp) hpre hq
   refine wp_region_ways m (ways S1 l.toArray ci cs) hm hpar htail (Nat.le_of_ble_eq_true hml) (fun i hi hic => ?_) hin' (ss:=ss) (hss [] a ⟨?_,rfl,hF1.defers,rfl,fun t d hd=>.inl ⟨rfl,hd⟩,fun u d hd _=>⟨hd,rfl⟩,rfl⟩)
   ·have hi':lateOf l.toArray ci i=true:=hi
    have hic':i ≠ ci:=hic
    unfold lateOf at hi'
    simp only [hic',decide_false,Bool.false_or] at hi'
    exact hi'
   ·rw [hC.hX,List.length_set]
    exact hF1.size
  split at hv
  ·refine go (ci:=l.length) (cs:=fr1.length) ⟨hF1,by rw [List.set_eq_of_length_le (Nat.le_refl _)],(fun x h=>by simp at h),hpar,?_,hnm⟩ (fun m sz rows e=>by cases e) hv fun fr' fs a' w' hk hx hI hf => ?_
   rotate_left
   ·have hC:QC S1 l l.length fr1.length a fr1 fr1 w:=⟨hF1,by rw [List.set_eq_of_length_le (Nat.le_refl _)],(fun x h=>by simp at h),hpar,by have:=late_out hpar;simpa using this,hnm⟩
    unfold afterQ at hk
    split at hk
    ·rename_i hn
     split at hk
     ·exact hk.elim
     ·rename_i hne
      have hFr:=(hI.fr hC hx hf (hI.nob hn) (isNew_no hne)).2 (by simp)
      obtain ⟨fr'',q1,q2⟩:=keepK_sound hFN hx (by omega) hFr (fun u c hu=>⟨c,(hI.own u _ (hobN u c hu) rfl).1⟩) (fun i hall hany=>by
       rcases hI.slot i _ hany with ⟨h1,_⟩|⟨k,o,v,k1,k2,_⟩
       ·exact h1
       ·have:=List.all_eq_true.1 hall o (gMem k1)
        simp [k2] at this) hk
      exact ⟨fr'',_,hx.to (.inr rfl),q1,q2⟩
    ·rename_i t hn
     split at hk
     rotate_left
     ·rename_i t2 _
      split at hk
      ·rename_i cs2 off sz n z hd2
       split at hk
       ·rename_i hb2
        rw [forceL_eq] at hk
        exact nagg_end hI hC (by simp) hx hf hn hd2 hb2 hk
       ·exact hk.elim
      ·exact hk.elim
     rw [forceL_eq] at hk
     obtain ⟨S2,t2,f2,_⟩:=hI.frN none hC (by simp) hx hf hn (by omega) (fun _ _ e=>by cases e)
     exact ⟨_,S2,t2,f2,hk⟩
    ·exact hk.elim
   have:=late_out hpar
   simpa using this
  ·rename_i k cs d hwr
   obtain ⟨hlate,hv⟩:=hv
   simp only [forceL_eq] at hv
   obtain ⟨hcs,m',sz,rows,rfl⟩:=writerOf_at hwr
   have hC:QC S1 l k cs a fr1 (fr1.set cs .any) w:=⟨hF1,rfl,(fun x h=>by rw [hcs] at h;cases h),hpar,hlate,hnm⟩
   refine go hC (fun _ _ _ _=>hcs) hv fun fr' fs a' w' hk hx hI hf => ?_
   split at hk
   ·rename_i hn
    split at hk
    ·exact hk.elim
    ·rename_i hne
     exact ⟨_,_,hx.to (.inr rfl),(hI.fr hC hx hf (hI.nob hn) (isNew_no hne)).1,hk⟩
   ·exact hk.elim
theorem vc_sound (hT:TOk P T Z) (hm:P.follows .mixedOrders=true):∀ (c:Code) {fr:List D} {Q:Exit→List D→Prop},vc P T Z M c fr Q→HT P c fr Q:=by
 intro c
 induction c with
 |skip=>exact fun h=>⟨fun S w a hF Q' hQ=>wp_skip (hQ _ _ S w a h (Trans.refl S w) hF)⟩
 |region id ops draw=>
  intro fr Q h
  refine ⟨fun S w a hF Q' hQ => ?_⟩
  simp only [vc] at h
  split at h
  ·rename_i hb
   simp only [Bool.and_eq_true] at hb
   rw [hb.1]
   have:=vcI_sound (id:=id) hT hm h hF (Q:=Q') fun fr' S' w' a' k t f=>hQ _ _ S' w' a' k t f
   simpa using this
  have:=vcRegion_sound (id:=id) hT hm h hF (Q:=Q') fun fr' S' w' a' k t f=>hQ _ _ S' w' a' k t f
  simpa using this
 |seq x y ihx ihy=>
  intro fr Q h
  refine ⟨fun S w a hF Q' hQ=>wp_seq ((ihx h).h S w a hF _ fun e fr' S' w' a' k t f => ?_)⟩
  cases e with
  |normal=>exact (ihy k).h S' w' a' f Q' fun e'' fr'' S'' w'' a'' k2 t2 f2=>hQ e'' fr'' S'' w'' a'' k2 (t.trans t2) f2
  |_=>exact hQ _ _ S' w' a' k t f
 |cond c x y ihx ihy=>
  intro fr Q h
  refine ⟨fun S w a hF Q' hQ => ?_⟩
  simp only [vc] at h
  split at h
  ·rename_i b hb
   obtain ⟨q,hq⟩:=hF.eval c
   rw [hb] at hq
   exact wp_cond_split hq.bool_inv (fun e=>(ihx (h.1 e)).h S w a hF Q' hQ) (fun e=>(ihy (h.2 e)).h S w a hF Q' hQ)
  ·exact h.elim
 |block id c ih=>
  intro fr Q h
  refine ⟨fun S w a hF Q' hQ=>wp_block ((ih h).h S w a hF _ fun e fr' S' w' a' k t f => ?_)⟩
  cases e with
  |exit n=>
   simp only at k
   simp only [Exit.inBlock]
   split at k
   ·rename_i hn
    rw [if_pos (Nat.eq_of_beq_eq_true hn)]
    exact hQ _ _ S' w' a' k t f
   ·rename_i hn
    rw [if_neg (fun e=>by subst e;simp at hn)]
    exact hQ _ _ S' w' a' k t f
  |_=>exact hQ _ _ S' w' a' k t f
 |loop c=>exact fun h=>h.h
 |exit id=>exact fun h=>⟨fun S w a hF Q' hQ=>wp_exit (hQ _ _ S w a h (Trans.refl S w) hF)⟩
 |ret=>exact fun h=>⟨fun S w a hF Q' hQ=>wp_ret (hQ _ _ S w a h (Trans.refl S w) hF)⟩
 |_=>exact fun h=>h.elim
def keepOk (fr fr':List D):Bool:=(List.range fr'.length).all fun i=>match fr'[i]? with
 |some (.al u)=>match fr'[u]? with
  |some d=>d.owns && !(Nat.beq u i)
  |none=>false
 |some (.alc u _)=>match fr'[u]? with
  |some d=>d.isObj
  |none=>false
 |some (.el u _ _ _ _)=>match fr'[u]? with
  |some d=>d.isObj
  |none=>false
 |some (.es u _ _ _)=>match fr'[u]? with
  |some d=>d.owns && !(Nat.beq u i)
  |none=>false
 |some d=>match fr[i]? with
  |some (.obj _)=>d.isObj || fr'.all (safeB i)
  |_=>true
 |none=>true
structure FLe (fr fr':List D):Prop where
 le:DLes fr fr'
 keep:keepOk fr fr'=true
theorem isObj_ex {d:D} (h:d.isObj=true):∃ cs,d=.obj cs:=by cases d<;>first|exact ⟨_,rfl⟩|cases h
theorem FLe.nm {fr fr':List D} (hl:FLe fr fr') {i:Nat} {d:D} (hd:fr'[i]?=some d):(∀ u o,d=.alc u o→∃ cs,fr'[u]?=some (.obj cs))∧(∀ u o sz k j,d=.el u o sz k j→∃ cs,fr'[u]?=some (.obj cs))∧∀ u sz k j,d=.es u sz k j→∃ d':D,fr'[u]?=some d'∧d'.owns=true∧u ≠ i:=by
 have hi:i < fr'.length:=(gLt hd)
 have:=List.all_eq_true.1 hl.keep i (List.mem_range.2 hi)
 rw [hd] at this
 refine ⟨fun u o e => ?_,fun u o sz k j e => ?_,fun u sz k j e => ?_⟩
 ·subst e
  simp only at this
  split at this
  ·rename_i d' hd'
   obtain ⟨cs,rfl⟩:=isObj_ex this
   exact ⟨cs,hd'⟩
  ·cases this
 ·subst e
  simp only at this
  split at this
  ·rename_i d' hd'
   obtain ⟨cs,rfl⟩:=isObj_ex this
   exact ⟨cs,hd'⟩
  ·cases this
 ·subst e
  simp only at this
  split at this
  ·rename_i d' hd'
   simp only [Bool.and_eq_true,Bool.not_eq_true'] at this
   exact ⟨d',hd',this.1,fun e=>by subst e;simp at this⟩
  ·cases this
theorem FR.le {fr fr':List D} (h:FR S w a fr) (hl:FLe fr fr'):FR S w a fr':=by
 have hlen:=hl.le.len
 have hk:∀ (i:Nat) (d:D),fr'[i]?=some d→(∀ u,d=.al u→∃ d':D,fr'[u]?=some d'∧d'.owns=true∧u ≠ i)∧∀ cs,fr[i]?=some (D.obj cs)→d.isObj=true∨∀ e ∈ fr',¬ Men i e:=fun i d hd=>by
  have hi:i < fr'.length:=(gLt hd)
  have:=List.all_eq_true.1 hl.keep i (List.mem_range.2 hi)
  rw [hd] at this
  refine ⟨fun u e => ?_,fun cs hc => ?_⟩
  ·subst e
   simp only at this
   split at this
   ·rename_i d' hd'
    simp only [Bool.and_eq_true,Bool.not_eq_true'] at this
    exact ⟨d',hd',this.1,fun e=>by subst e;simp at this⟩
   ·cases this
  ·cases d with
   |obj cs=>exact .inl rfl
   |al u=>
    exfalso
    have h1:=hl.le.get (i:=i) hc hd
    cases h1
   |alc u o=>
    exfalso
    have h1:=hl.le.get (i:=i) hc hd
    cases h1
   |el u o sz k j=>
    exfalso
    have h1:=hl.le.get (i:=i) hc hd
    cases h1
   |es u sz k j=>
    exfalso
    have h1:=hl.le.get (i:=i) hc hd
    cases h1
   |_=>
    simp only [hc,Bool.or_eq_true] at this
    rcases this with h|h
    ·exact .inl h
    ·exact .inr fun e he=>safeB_men (List.all_eq_true.1 h e he)
 have hmen:∀ {d d':D},DLe d d'→∀ {p:Place} {v:Value},Rep S w p v d→∀ t,Men t d'→Men t d:=by
  intro d d' hd
  induction hd with
  |refl d=>exact fun _ t h=>h
  |any d=>exact fun _ t h=>by cases h
  |nil m sz=>exact fun _ t h=>by cases h
  |own sz rows=>exact fun _ t h=>by cases h
  |rows=>exact fun _ t h=>by cases h
  |gd hc _ ih=>
   intro p v hr t hm
   have hf:=hr.gd_inv.1 hc
   exact (hf.men (ih (.fz (p:=p) hf) t hm)).elim
  |@agg ds ds' hl' _ ih=>
   intro p v hr t hm
   obtain ⟨vs,rfl,h1,h2,h3⟩:=hr.agg_inv
   cases hm with
   |@agg j _ d0 hj hm=>
    have hjl:j < ds.length:=by rw [← hl'];exact (gLt hj)
    exact .agg (List.getElem?_eq_getElem hjl) (ih j _ _ (List.getElem?_eq_getElem hjl) hj (h3 j _ _ (List.getElem?_eq_getElem hjl) (List.getElem?_eq_getElem (by omega))) t hm)
  |@tup ds ds' hl' _ ih=>
   intro p v hr t hm
   obtain ⟨vs,rfl,h1,h3⟩:=hr.tup_inv
   cases hm with
   |@tup j _ d0 hj hm=>
    have hjl:j < ds.length:=by rw [← hl'];exact (gLt hj)
    exact .tup (List.getElem?_eq_getElem hjl) (ih j _ _ (List.getElem?_eq_getElem hjl) hj (h3 j _ _ (List.getElem?_eq_getElem hjl) (List.getElem?_eq_getElem (by omega))) t hm)
 refine ⟨h.wf,h.size.trans hlen.symm,h.defers,fun i d' v hd' hv => ?_⟩
 have hi:i < fr.length:=by rw [← hlen];exact (List.getElem?_eq_some_iff.1 hd').1
 obtain ⟨d,hd⟩:∃ d,fr[i]?=some d:=⟨fr[i],List.getElem?_eq_getElem hi⟩
 have hle:=hl.le.get hd hd'
 have hs:=h.slot i d v hd hv
 obtain ⟨k1,_⟩:=hk i d' hd'
 have rest:d.isNm=false→SlotRep S w a fr' i v d':=fun hn=>by
  obtain ⟨r1,r2⟩:=hs.rep hn
  refine SlotRep.of (Rep.le hle r1) fun t ht => ?_
  obtain ⟨cs,hc⟩:=r2 t (hmen hle r1 t ht)
  have htl:t < fr'.length:=by rw [hlen];exact (gLt hc)
  have:=((hk t _ (List.getElem?_eq_getElem htl)).2 cs hc).resolve_right fun hno=>hno d' (gMem hd') ht
  rw [List.getElem?_eq_getElem htl]
  generalize fr'[t]=e at this
  cases e<;>first|exact ⟨_,rfl⟩|cases this
 cases d with
 |al u=>
  cases hle with
  |refl=>
   obtain ⟨d'',g1,g2,g3⟩:=k1 u rfl
   exact ⟨hs.1,d'',g1,g2,g3⟩
  |any=>exact SlotRep.of (.fz (.any _)) fun t ht=>by cases ht
 |alc u o=>
  cases hle with
  |refl=>exact ⟨hs.1.mono (w:=w) (w':=w) ((hl.nm hd').1 _ _ rfl) rfl rfl,hs.2⟩
  |any=>exact SlotRep.of (.fz (.any _)) fun t ht=>by cases ht
 |el u o sz k j=>
  cases hle with
  |refl=>exact ⟨hs.1.mono (w:=w) (w':=w) ((hl.nm hd').2.1 _ _ _ _ _ rfl) rfl rfl,hs.2⟩
  |any=>exact SlotRep.of (.fz (.any _)) fun t ht=>by cases ht
 |es u sz k j=>
  cases hle with
  |refl=>exact ⟨(hl.nm hd').2.2 _ _ _ _ rfl,hs.2⟩
  |any=>exact SlotRep.of (.fz (.any _)) fun t ht=>by cases ht
 |_=>exact rest rfl
theorem vc_loop (hT:TOk P T Z) (hm:P.follows .mixedOrders=true) {c:Code} {fr:List D} {Q:Exit→List D→Prop} {α:Type} (I:α→List D) (pre:α→Prop) (μ:α→Nat) (x0:α) (h0:FLe fr (I x0)) (hp0:pre x0)
  (step:∀ x,pre x→vc P T Z M c (I x) fun e fr'=>match e with
   |.normal=>Halt' (∃ y,pre y∧μ y < μ x∧FLe fr' (I y))
   | e=>Q e fr'):HT P (.loop c) fr Q:=by
 refine ⟨fun S w a hF Q' hQ => ?_⟩
 refine wp_loop_ghost (fun n a' w'=>∃ x S',pre x∧μ x=n∧Trans S w S' w'∧FR S' w' a' (I x)) (μ x0) ⟨x0,S,hp0,rfl,Trans.refl S w,hF.le h0⟩ ?_
 rintro n a1 w1 ⟨x,S1,hx,rfl,t1,f1⟩
 refine (vc_sound hT hm c (step x hx)).h S1 w1 a1 f1 _ fun e fr' S' w' a' k t f => ?_
 cases e with
 |normal=>
  obtain ⟨y,hy,hlt,hle⟩:=k.h
  exact ⟨μ y,hlt,y,S',hy,rfl,t1.trans t,f.le hle⟩
 |_=>exact hQ _ _ S' w' a' k (t1.trans t) f
end
end Go.Proofs.YtindehjiaknokaaGreatDoor
namespace Go.Proofs.YtindehjiaknokaaGreatDoor
set_option linter.unusedSimpArgs false
set_option linter.unusedVariables false
open Go.RowKit
variable {args:List D}
def slotOf:ResultVar→Nat
 |.tmp t=>t
 |.cell t _=>t
def retD (T:Nat→Option TI) (fr:List D):ResultVar→Option D
 |.tmp t=>match fr[t]? with
  |some (.al _)=>none
  |some (.alc _ _)=>none
  |some (.el _ _ _ _ _)=>none
  |some (.es _ _ _ _)=>none
  |d=>d
 |.cell t ty=>match fr[t]? with
  |some (.obj cs)=>match T ty with
   |some (.st n _ _)=>match Nat.beq n cs.length with
    |true=>some (.agg cs)
    |false=>none
   |some _=>match cs with
    |[d]=>match d.one with
     |true=>some d
     |false=>none
    |_=>none
   |none=>none
  |_=>none
inductive RLe (d0 d:D):Prop
 |le (h:DLe d0 d)
 |frz (hc:d0.calm=true) (h:DLe d0.frz d)
def RetL (T:Nat→Option TI) (fr:List D):List ResultVar→List D→Prop
 |[],[]=>True
 | t::ts,d::ds=>(match retD T fr t with
  |some d0=>RLe d0 d
  | none=>False)∧RetL T fr ts ds
 |_,_=>False
def RetOk (T:Nat→Option TI) (rs:List ResultVar) (fr:List D) (d:D):Prop:=
 match rs with
 |[r]=>RetL T fr [r] [d]
 |rs=>match d with
  |.tup ds=>RetL T fr rs ds
  |_=>False
structure Ends (T:Nat→Option TI) (e:Exit) (rs:List ResultVar) (fr:List D) (d:D):Prop where
 e:e=.normal∨e=.ret
 h:RetOk T rs fr d
def OutOk (fr:List D) (out:Option D):Prop:=
 match out with
 |none=>True
 |some (.obj cs')=>match fr.head? with
  |some (.obj cs)=>DLes cs cs'
  |_=>False
 |_=>False
structure EndsO (T:Nat→Option TI) (e:Exit) (rs:List ResultVar) (fr:List D) (d:D) (out:Option D):Prop where
 n:Ends T e rs fr d
 o:OutOk fr out
theorem RetL.get {T:Nat→Option TI} {fr:List D}:∀ {ts:List ResultVar} {ds:List D},RetL T fr ts ds→ts.length=ds.length∧∀ (j:Nat) (t:ResultVar) (d:D),ts[j]?=some t→ds[j]?=some d→∃ d0,retD T fr t=some d0∧RLe d0 d
 |[],[],_=>⟨rfl,fun j t d h=>by simp at h⟩
 |[],_::_,h=>h.elim
 |_::_,[],h=>h.elim
 |t::ts,d::ds,h=>by
  obtain ⟨h1,h2⟩:=h
  obtain ⟨k1,k2⟩:=RetL.get h2
  refine ⟨by simp [k1],fun j t' d' ht hd => ?_⟩
  cases j with
  |zero=>
   cases ht;cases hd
   split at h1
   ·exact ⟨_,by assumption,h1⟩
   ·exact h1.elim
  |succ j=>exact k2 j t' d' (by simpa using ht) (by simpa using hd)
def Sig.ret (S:Sig) (f:Nat→Option (Option (List Nat))):Sig:=
 ⟨fun b=>match S.own b with
  |none=>none
  |some (q,l)=>match f q.r with
   |none=>some (q,l)
   |some none=>none
   | some (some pre)=>some (⟨1,pre++q.path⟩,l),S.loc⟩
theorem Sig.ret_lim {S:Sig} {f:Nat→Option (Option (List Nat))} {b s:Nat} (h:(S.ret f).lim b=some s):S.lim b=some s:=by
 simp only [Sig.lim,Sig.ret] at h ⊢
 cases ho:S.own b with
 |none=>rw [ho] at h;cases h
 |some x=>
  obtain ⟨q,l⟩:=x
  rw [ho] at h
  simp only at h
  split at h
  ·exact h
  ·cases h
  ·exact h
theorem Fz.ret {S:Sig} {f:Nat→Option (Option (List Nat))} {w:World} {v:Value} {d:D} (h:Fz S.lim w v d):Fz (S.ret f).lim w v d:=h.monoL fun _ _ hs=>Sig.ret_lim hs
theorem Sig.ret_trans {S:Sig} {f:Nat→Option (Option (List Nat))} {w:World} (hw:WF S w) (h0:f 0=none):Trans S w (S.ret f) w∧WF (S.ret f) w:=by
 refine ⟨⟨rfl,rfl,rfl,Nat.le_refl _,fun b _ hn=>⟨rfl,by simp only [Sig.ret,hn]⟩,fun b p l _ hs hd=>⟨rfl,by simp only [Sig.ret,hs,hd,h0]⟩,fun b p l _ hs=>⟨Keeps.refl _ _,fun x hx => ?_⟩,rfl⟩,⟨fun b x hx => ?_,hw.gl.sig fun b hn=>by simp only [Sig.ret,hn]⟩⟩
 ·have:(S.ret f).lim b=some x.2:=by simp only [Sig.lim,hx,Option.map_some]
  have:=Sig.ret_lim this
  simp only [Sig.lim,hs,Option.map_some,Option.some.injEq] at this
  omega
 ·have:(S.ret f).lim b=some x.2:=by simp only [Sig.lim,hx,Option.map_some]
  have:=Sig.ret_lim this
  simp only [Sig.lim] at this
  cases ho:S.own b with
  |none=>rw [ho] at this;cases this
  |some y=>exact hw b y ho
section
variable {S:Sig} {w:World} {f:Nat→Option (Option (List Nat))} {r:Nat}
theorem Rep.ret_keep {pre:List Nat} (hf:f r=some (some pre)) {v:Value} {d:D}:∀ {x:List Nat},d.calm=true→Rep S w ⟨r,x⟩ v d→Rep (S.ret f) w ⟨1,pre++x⟩ v d:=by
 have hown:∀ {x:List Nat} {v:Value} {d:D},d.calm1=true→Rep S w ⟨r,x⟩ v d→Rep (S.ret f) w ⟨1,pre++x⟩ v d:=by
  intro x v d hc hr
  cases hr with
  |fz h=>exact .fz h.ret
  |own g=>
   refine .own ⟨g.mode,g.heap,g.le,g.max,g.size,g.each,by simp only [Sig.ret,g.own,hf],fun k r j d hk hd => ?_⟩
   obtain ⟨u,h1,h2,h3⟩:=g.cells k r j d hk hd
   exact ⟨u,h1,h2,h3.ret⟩
  |@mp _ b clock kd es ents hown hh he hk=>exact .mp (by simp only [Sig.ret,hown,hf]) hh he hk
  |obj=>cases hc
  |ref=>cases hc
  |gref=>cases hc
  |fn=>cases hc
  |agg=>cases hc
  |tup=>cases hc
 have hagg:∀ {x:List Nat} {v:Value} {cs:List D},cs.all D.calm1=true→Rep S w ⟨r,x⟩ v (.agg cs)→Rep (S.ret f) w ⟨1,pre++x⟩ v (.agg cs):=by
  intro x v cs hc hr
  obtain ⟨vs,rfl,h1,h2,h3⟩:=hr.agg_inv
  refine .agg vs h1 h2 fun j d v hd hv => ?_
  have:=hown (List.all_eq_true.1 hc d (gMem hd)) (h3 j d v hd hv)
  simpa [Place.at,List.append_assoc] using this
 intro x hc hr
 cases d with
 |agg cs=>exact hagg hc hr
 |tup ds=>
  obtain ⟨vs,rfl,h1,h3⟩:=hr.tup_inv
  refine .tup vs h1 fun j d v hd hv => ?_
  have hc1:=List.all_eq_true.1 hc d (gMem hd)
  have h4:=h3 j d v hd hv
  have:Rep (S.ret f) w ⟨1,pre++(x ++ [j])⟩ v d:=by
   cases d with
   |agg cs=>exact hagg hc1 h4
   |_=>exact hown hc1 h4
  simpa [Place.at,List.append_assoc] using this
 |any=>exact .fz (.any v)
 |_=>exact hown hc hr
theorem Rep.ret_none (hf:f r=none) {v:Value} {d:D} (hc:d.left=true) (hr:Rep S w ⟨r,[]⟩ v d):Rep (S.ret f) w ⟨r,[]⟩ v d:=by
 have hown:∀ {x:List Nat} {v:Value} {d:D},d.calm1=true→Rep S w ⟨r,x⟩ v d→Rep (S.ret f) w ⟨r,x⟩ v d:=by
  intro x v d hc hr
  cases hr with
  |fz h=>exact .fz h.ret
  |own g=>
   refine .own ⟨g.mode,g.heap,g.le,g.max,g.size,g.each,by simp only [Sig.ret,g.own,hf],fun k r j d hk hd => ?_⟩
   obtain ⟨u,h1,h2,h3⟩:=g.cells k r j d hk hd
   exact ⟨u,h1,h2,h3.ret⟩
  |@mp _ b clock kd es ents hown hh he hk=>exact .mp (by simp only [Sig.ret,hown,hf]) hh he hk
  |obj=>cases hc
  |ref=>cases hc
  |gref=>cases hc
  |fn=>cases hc
  |agg=>cases hc
  |tup=>cases hc
 cases d with
 |obj cs=>
  cases hr with
  |fz h=>cases h
  |@obj _ b _ _ cur e hb hp hl hh hs h1 ih=>
   exact .obj (b:=b) (by simp only [Sig.ret,hb,hf]) rfl hl hh hs h1 fun i d v hd hv=>hown (List.all_eq_true.1 hc d (gMem hd)) (ih i d v hd hv)
 |any=>exact .fz (.any v)
 |_=>exact hown hc hr
theorem Rep.obj_le {p:Place} {v:Value} {cs cs':List D} (h:Rep S w p v (.obj cs)) (hl:DLes cs cs'):Rep S w p v (.obj cs'):=by
 cases h with
 |fz h=>cases h
 |obj hb hp hlo hh hs h1 ih=>
  refine .obj hb hp hlo hh (hl.len.trans hs) h1 fun i d v hd hv => ?_
  have hi:i < cs.length:=by rw [← hl.len];exact (gLt hd)
  exact Rep.le (hl.get (List.getElem?_eq_getElem hi) hd) (ih i _ v (List.getElem?_eq_getElem hi) hv)
theorem frz_calm1 {d:D} (h:d.calm1=true):d.frz=frz1d d:=by
 cases d<;>first|rfl|cases h
theorem Rep.ret_kill (hf:f r=some none) {v:Value} {d:D}:∀ {x:List Nat},d.calm=true→Rep S w ⟨r,x⟩ v d→Fz (S.ret f).lim w v d.frz:=by
 have hown:∀ {x:List Nat} {v:Value} {d:D},d.calm1=true→Rep S w ⟨r,x⟩ v d→Fz (S.ret f).lim w v (frz1d d):=by
  intro x v d hc hr
  cases hr with
  |fz h=>exact h.ret.frz1
  |own g=>
   exact g.fz2 (fun h=>h.ret) rfl fun k _ s hs=>by
    simp only [Sig.lim,Sig.ret,g.own,hf,Option.map_none] at hs
    cases hs
  |mp=>exact .any _
  |obj=>cases hc
  |ref=>cases hc
  |gref=>cases hc
  |fn=>cases hc
  |agg=>cases hc
  |tup=>cases hc
 have hagg:∀ {x:List Nat} {v:Value} {cs:List D},cs.all D.calm1=true→Rep S w ⟨r,x⟩ v (.agg cs)→Fz (S.ret f).lim w v (.agg (cs.map frz1d)):=by
  intro x v cs hc hr
  obtain ⟨vs,rfl,h1,h2,h3⟩:=hr.agg_inv
  refine .agg vs (by simp [h1]) h2 fun j d u hd hu => ?_
  rw [List.getElem?_map] at hd
  cases hcj:cs[j]? with
  |none=>rw [hcj] at hd;cases hd
  |some e=>
   rw [hcj] at hd
   cases hd
   exact hown (List.all_eq_true.1 hc e (gMem hcj)) (h3 j e u hcj hu)
 intro x hc hr
 by_cases h1:d.calm1=true
 ·rw [frz_calm1 h1];exact hown h1 hr
 cases d with
 |agg cs=>exact hagg hc hr
 |tup ds=>
  obtain ⟨vs,rfl,h1,h3⟩:=hr.tup_inv
  refine .tup vs (by simp [h1]) fun j d u hd hu => ?_
  rw [List.getElem?_map] at hd
  cases hcj:ds[j]? with
  |none=>rw [hcj] at hd;cases hd
  |some e=>
   rw [hcj] at hd
   cases hd
   have hc1:=List.all_eq_true.1 hc e (gMem hcj)
   have h4:=h3 j e u hcj hu
   cases e with
   |agg cs=>exact hagg hc1 h4
   |_=>exact hown hc1 h4
 |any=>exact .any v
 |_=>exact absurd hc h1
end
def resOne (tmps:Array Value):ResultVar→_root_.Go.Sem Value
 |.tmp t=>pure (tmps.getD t undef)
 |.cell a t=>do loadVar t (← asAddr (tmps.getD a undef))
theorem results_eq (fn:Func) (tmps:Array Value):results fn tmps=(do
 let vs ← fn.results.mapM (resOne tmps)
 pure (if h:vs.size=1 then vs[0] else .tuple vs)):=by
 unfold results
 congr 1
theorem results_run {P:Program} {tmps:Array Value} {w:World}:∀ {rs:List ResultVar},(∀ r ∈ rs,∃ v,(resOne tmps r).run P w=.ok v w)→∃ vs:List Value,(rs.mapM (resOne tmps)).run P w=.ok vs w∧vs.length=rs.length∧∀ (j:Nat) (r:ResultVar) (v:Value),rs[j]?=some r→vs[j]?=some v→(resOne tmps r).run P w=.ok v w
 |[],_=>⟨[],rfl,rfl,fun j r v h=>by simp at h⟩
 |r::rs,h=>by
  obtain ⟨v,hv⟩:=h r (by simp)
  obtain ⟨vs,h1,h2,h3⟩:=results_run (P:=P) (tmps:=tmps) (w:=w) (rs:=rs) fun r hr=>h r (by simp [hr])
  refine ⟨v::vs,?_,by simp [h2],fun j r' v' hr hv' => ?_⟩
  ·rw [List.mapM_cons,Sem.run_bind,hv,Result.andThen_ok,Sem.run_bind,h1]
   rfl
  ·cases j with
   |zero=>cases hr;cases hv';exact hv
   |succ j=>exact h3 j r' v' (by simpa using hr) (by simpa using hv')
theorem retD_ok {P:Program} {T:Nat→Option TI} {Z:Nat→Option (List Value)} (hT:TOk P T Z) {S:Sig} {w:World} {a:Act} {fr:List D} (h:FR S w a fr) {r:ResultVar} {d:D} (hr:retD T fr r=some d):∃ v,(resOne a.tmps r).run P w=.ok v w∧Rep S w (.slot (slotOf r)) v d:=by
 cases r with
 |tmp t=>
  simp only [retD] at hr
  split at hr
  ·cases hr
  ·cases hr
  ·cases hr
  ·cases hr
  ·rename_i hn1 hn2 hn3 hn4
   obtain ⟨v,hv,hs⟩:=h.at hr
   refine ⟨v,?_,(hs.rep (by cases d<;>first|rfl|exact absurd hr (hn1 _)|exact absurd hr (hn2 _ _)|exact absurd hr (hn3 _ _ _ _ _)|exact absurd hr (hn4 _ _ _ _))).1⟩
   simp only [resOne,Array.getD_eq_getD_getElem?,hv,Option.getD_some]
   rfl
 |cell t ty=>
  simp only [retD] at hr
  split at hr
  ·rename_i cs hd
   obtain ⟨v0,hv0,hs0⟩:=h.at hd
   obtain ⟨b,cur,e,rfl,hb,hloc,hh,hsz,h1,ih⟩:=hs0.1.obj_inv
   have hrun:∀ {v:Value},(loadVar ty ⟨b,0,none⟩).run P w=.ok v w→(resOne a.tmps (.cell t ty)).run P w=.ok v w:=fun hl=>by
    simp only [resOne,Array.getD_eq_getD_getElem?,hv0,Option.getD_some,asAddr,Sem.run_bind,Sem.run_pure,Result.andThen_ok]
    exact hl
   have hcell:∀ i,i < cs.length→w.cell? ⟨b,i,none⟩=some (cur.toList.getD i undef)∧cur[i]?=some (cur.toList.getD i undef):=fun i hi=>by
    have hc:cur[i]?=some (cur.toList.getD i undef):=by
     rw [← Array.getElem?_toList,List.getD_eq_getElem?_getD,List.getElem?_eq_getElem (by simp;omega)]
     rfl
    exact ⟨by rw [cell_of_row w b _ cur e (0,0) hh];exact hc,hc⟩
   split at hr
   ·rename_i n fl ks ht
    split at hr
    ·rename_i hn
     cases hr
     obtain rfl:=Nat.eq_of_beq_eq_true hn
     obtain ⟨dd,k1,k2⟩:=(hT.ty _ _ ht).1.h
     have hl:=run_loadVar_at (P:=P) w b 0 ty cur.toList dd (fun j u hu=>by
      rw [Nat.zero_add,cell_of_row w b _ cur e (0,0) hh]
      simpa using hu) k1 (by cases dd<;>first|rfl|cases k2) (by rw [(hT.ty _ _ ht).1.sz];simp [hsz])
     refine ⟨_,hrun hl,?_⟩
     refine .agg cur.toList (by simp [hsz]) (fun v hv => ?_) fun j d v hj hv => ?_
     ·obtain ⟨i,hi,rfl⟩:=List.mem_iff_getElem.1 hv
      exact h1 i _ (by simp at hi ⊢)
     ·exact ih j d v hj (by simpa using hv)
    ·cases hr
   ·rename_i i hi ht
    haveI:=(hT.ty _ _ ht).one (fun n fl ks e=>hi n fl ks e)
    split at hr
    ·split at hr
     ·rename_i d0 ho
      cases hr
      obtain ⟨k1,k2⟩:=hcell 0 (by simp)
      refine ⟨_,hrun ?_,.fz (D.one_fz (ih 0 d _ rfl k2) ho)⟩
      obtain ⟨dd,q1,q2⟩:=TOne.h (P:=P) (t:=ty)
      unfold loadVar
      rw [Sem.run_bind,run_isAgg_of q1,q2]
      simp [k1]
     ·cases hr
    ·cases hr
   ·cases hr
  ·cases hr
theorem calm_comp {ds:List D} (h:(D.tup ds).calm=true) {j:Nat} {d:D} (hd:ds[j]?=some d):d.calm=true:=by
 have h1:=List.all_eq_true.1 h d (gMem hd)
 cases d with
 |agg cs=>exact h1
 |_=>first|exact h1|cases h1
section
variable {P:Program} {T:Nat→Option TI} {Z:Nat→Option (List Value)} {M:Nat→Bool}
theorem run_intro (hT:TOk P T Z) (hm:P.follows .mixedOrders=true) {f:Nat} {fn:Func} {c:Code} {d:D} {out:Option D} (hf:P.funcs[f]?=some fn) (hb:fn.body=some c) (hcalm:d.calm=true) (hargs:∀ d ∈ args,∀ t,¬ Men t d) (hnt:Nat.ble args.length fn.ntmps=true)
  {rs:List ResultVar} (hrs:fn.results.toList=rs) (hnd:decide (rs.map slotOf).Nodup=true)
  (hout:∀ d',out=some d'→d'.left=true∧(rs.all fun r => !Nat.beq (slotOf r) 0)=true∧∃ cs,args[0]?=some (.obj cs))
  (hv:HT P c (args++List.replicate (fn.ntmps - args.length) .any) fun e fr'=>EndsO T e rs fr' d out):∀ (S:Sig) (w:World) (vs:List Value),WF S w→vs.length=args.length→(∀ (i:Nat) (d:D) (v:Value),args[i]?=some d→vs[i]?=some v→Rep S w (.slot i) v d)→
  Calls P f vs.toArray w fun e w'=>∃ v S',e=.returned v∧WF S' w'∧Trans S w S' w'∧Rep S' w' .res v d∧∀ d' v0,out=some d'→vs[0]?=some v0→Rep S' w' (.slot 0) v0 d':=by
 refine fun S w vs hw hl hr=>calls_of_wp hf hb ?_
 have hF:FR S w { tmps:=vs.toArray++Array.replicate (fn.ntmps - vs.toArray.size) undef,defers := [] } (args++List.replicate (fn.ntmps - args.length) .any):=by
  refine ⟨hw,by simp [hl],rfl,fun i e v hi hv => ?_⟩
  by_cases hia:i < args.length
  ·rw [List.getElem?_append_left hia] at hi
   have hv':vs[i]?=some v:=by
    have:(vs.toArray++Array.replicate (fn.ntmps - vs.toArray.size) undef)[i]?=vs[i]?:=by
     rw [Array.getElem?_append_left (by simpa [hl] using hia)]
     simp
    rw [← this];exact hv
   have hno:=hargs e (gMem hi)
   exact SlotRep.of (hr i e v hi hv') fun t ht=>absurd ht (hno t)
  ·rw [List.getElem?_append_right (by omega)] at hi
   have:=gMem hi
   rw [List.mem_replicate] at this
   rw [this.2]
   exact SlotRep.of (.fz (.any _)) fun t ht=>by cases ht
 refine hv.h S w _ hF _ fun e fr' S' w' a' hk ht hF' => ?_
 obtain ⟨⟨he,hret⟩,ho⟩:=hk
 have left:∀ d' v0,out=some d'→vs[0]?=some v0→Rep S' w' (.slot 0) v0 d':=by
  intro d' v0 hd' hv0
  obtain ⟨_,_,cs0,h0⟩:=hout d' hd'
  subst hd'
  unfold OutOk at ho
  split at ho
  ·rename_i he;cases he
  ·rename_i cs' he
   cases he
   split at ho
   ·rename_i cs hd
    rw [List.head?_eq_getElem?] at hd
    obtain ⟨v1,hv1,hs1⟩:=hF'.at hd
    have h1:v1=.pointer (some ⟨S'.loc 2,0,none⟩):=by
     obtain ⟨b,_,_,rfl,_,hloc,_⟩:=hs1.1.obj_inv
     rw [hloc]
    have h2:v0=.pointer (some ⟨S.loc 2,0,none⟩):=by
     obtain ⟨b,_,_,rfl,_,hloc,_⟩:=(hr 0 _ v0 h0 hv0).obj_inv
     rw [hloc]
    have:v0=v1:=by rw [h1,h2,ht.loc2]
    subst this
    exact hs1.1.obj_le ho
   ·exact ho.elim
  ·exact ho.elim
 obtain ⟨Lft,hLft⟩:∃ L:Sig→Prop,∀ S'',L S''↔(∀ d' v0,out=some d'→vs[0]?=some v0→Rep S'' w' (.slot 0) v0 d'):=⟨_,fun _=>Iff.rfl⟩
 have post:a'.defers = []∧∃ v,(results fn a'.tmps).run P w'=.ok v w'∧∃ v' S'',Ending.returned v=.returned v'∧WF S'' w'∧Trans S w S'' w'∧Rep S'' w' .res v' d∧∀ d' v0,out=some d'→vs[0]?=some v0→Rep S'' w' (.slot 0) v0 d':=by
  refine ⟨hF'.defers,?_⟩
  have hnd':(rs.map slotOf).Nodup:=of_decide_eq_true hnd
  -- which results are handed on with what they own
  have key:∀ (ds:List D) (one:Bool),RetL T fr' rs ds→(∀ (j:Nat) (d:D),ds[j]?=some d→d.calm=true)→(one=true→rs.length=1)→∃ (S'':Sig) (vs:List Value),(results fn a'.tmps).run P w'=.ok (if h:vs.length=1 then vs[0] else .tuple vs.toArray) w'∧vs.length=ds.length∧WF S'' w'∧Trans S' w' S'' w'∧(∀ (j:Nat) (v:Value) (d:D),vs[j]?=some v→ds[j]?=some d→Rep S'' w' ⟨1,if one then [] else [j]⟩ v d)∧Lft S'':=by
   intro ds one hrl hcs hone
   classical
   obtain ⟨hlen,hget⟩:=hrl.get
   have hall:∀ r ∈ rs,∃ v,(resOne a'.tmps r).run P w'=.ok v w':=fun r hr=>by
    obtain ⟨j,hj,rfl⟩:=List.mem_iff_getElem.1 hr
    have hjd:j < ds.length:=by omega
    obtain ⟨d0,h0,_⟩:=hget j _ _ (List.getElem?_eq_getElem hj) (List.getElem?_eq_getElem hjd)
    obtain ⟨v,hv,_⟩:=retD_ok hT hF' h0
    exact ⟨v,hv⟩
   obtain ⟨vs,hvs,hvl,hvj⟩:=results_run (P:=P) hall
   let f:Nat→Option (Option (List Nat)):=fun r=>match rs.findIdx? (fun t=>slotOf t+2 == r) with
    |none=>none
    |some j=>if (∀ t d d0,rs[j]?=some t→ds[j]?=some d→retD T fr' t=some d0→DLe d0 d) then some (some (if one then [] else [j])) else some none
   have hf0:f 0=none:=by
    have:rs.findIdx? (fun t=>slotOf t+2 == 0)=none:=by
     rw [List.findIdx?_eq_none_iff]
     intro t _
     simp
    simp only [f,this]
   have hfj:∀ (j:Nat) (t:ResultVar),rs[j]?=some t→rs.findIdx? (fun t'=>slotOf t'+2 == slotOf t+2)=some j:=fun j t hj=>by
    have hjl:j < rs.length:=(gLt hj)
    have hjt:rs[j]=t:=(List.getElem?_eq_some_iff.1 hj).2
    rw [List.findIdx?_eq_some_iff_getElem]
    refine ⟨hjl,by simp [hjt],fun k hk => ?_⟩
    have hne:=List.pairwise_iff_getElem.1 hnd' k j (by simp;omega) (by simpa using hjl) hk
    simp only [List.getElem_map,hjt] at hne
    simp only [beq_iff_eq,Nat.add_right_cancel_iff]
    simpa using hne
   obtain ⟨t1,w1⟩:=Sig.ret_trans (f:=f) hF'.wf hf0
   have hl:fn.results=rs.toArray:=by rw [← hrs]
   have hrun:(results fn a'.tmps).run P w'=.ok (if h:vs.length=1 then vs[0] else .tuple vs.toArray) w':=by
    rw [results_eq,hl,List.mapM_toArray,Sem.run_bind,Sem.run_map,hvs]
    rfl
   refine ⟨S'.ret f,vs,hrun,by omega,w1,t1,fun j v d hv hd => ?_,(hLft _).2 fun d' v0 hd' hv0 => ?_⟩
   case refine_2=>
    obtain ⟨hleft,hns,_⟩:=hout d' hd'
    have hf2:f 2=none:=by
     have:rs.findIdx? (fun t=>slotOf t+2 == 2)=none:=by
      rw [List.findIdx?_eq_none_iff]
      intro t ht'
      have:=List.all_eq_true.1 hns t ht'
      simp only [Bool.not_eq_true'] at this
      simp only [beq_eq_false_iff_ne,ne_eq]
      intro he
      have hz:slotOf t=0:=by omega
      rw [hz] at this
      cases this
     simp only [f,this]
    exact Rep.ret_none hf2 hleft (left d' v0 hd' hv0)
   have hj:j < rs.length:=by rw [← hvl];exact (gLt hv)
   have hjr:rs[j]?=some rs[j]:=List.getElem?_eq_getElem hj
   obtain ⟨d0,hd0,hle⟩:=hget j _ d hjr hd
   obtain ⟨v',hv',hrep⟩:=retD_ok hT hF' hd0
   have hvv:=hvj j _ v hjr hv
   rw [hv'] at hvv
   cases hvv
   have hfi:=hfj j _ hjr
   by_cases hdle:∀ t d d0,rs[j]?=some t→ds[j]?=some d→retD T fr' t=some d0→DLe d0 d
   ·have hft:f (slotOf rs[j]+2)=some (some (if one then [] else [j])):=by simp only [f,hfi];rw [if_pos hdle]
    have hr1:=Rep.le (hdle _ d d0 hjr hd hd0) hrep
    have:=Rep.ret_keep (r:=slotOf rs[j]+2) (x := []) hft (hcs j d hd) hr1
    simpa using this
   ·have hft:f (slotOf rs[j]+2)=some none:=by simp only [f,hfi];rw [if_neg hdle]
    have hnle:¬ DLe d0 d:=fun h=>hdle fun t' d' d0' h1 h2 h3=>by
     rw [hjr] at h1;cases h1
     rw [hd] at h2;cases h2
     rw [hd0] at h3;cases h3
     exact h
    rcases hle with h|⟨hc0,h⟩
    ·exact absurd h hnle
    ·exact Rep.le h (.fz (Rep.ret_kill (r:=slotOf rs[j]+2) (x := []) hft hc0 hrep))
  unfold RetOk at hret
  split at hret
  ·rename_i t
   obtain ⟨S'',vs,hrun,hvl,w1,t1,hk,hl0⟩:=key [d] true hret (fun j d' hd=>by cases j with|zero=>cases hd;exact hcalm|succ j=>simp at hd) (fun _=>rfl)
   match vs,hvl with
   |[v],_=>exact ⟨_,hrun,_,S'',rfl,w1,ht.trans t1,hk 0 v d rfl rfl,(hLft _).1 hl0⟩
  ·rename_i rs' hne
   split at hret
   ·rename_i ds
    obtain ⟨hlen,_⟩:=hret.get
    obtain ⟨S'',vs,hrun,hvl,w1,t1,hk,hl0⟩:=key ds false hret (fun j d' hd=>calm_comp hcalm hd) (fun e=>by cases e)
    have hn1:¬ vs.length=1:=fun e=>by
     match rs,(show rs.length=1 by omega) with
     |[t],_=>exact hne t rfl
    rw [dif_neg hn1] at hrun
    exact ⟨_,hrun,_,S'',rfl,w1,ht.trans t1,.tup vs hvl fun j d' v hd hv=>hk j v d' hv hd,(hLft _).1 hl0⟩
   ·exact hret.elim
 rcases he with rfl|rfl
 ·exact post
 ·exact post
theorem sem_intro (hT:TOk P T Z) (hm:P.follows .mixedOrders=true) {f:Nat} {fn:Func} {c:Code} {d:D} (hf:P.funcs[f]?=some fn) (hen:Enters P f) (hb:fn.body=some c) (hcalm:d.calm=true) (hargs:(args.all fun d=>d.calm || d.passes)=true) (hnt:Nat.ble args.length fn.ntmps=true)
  {rs:List ResultVar} (hrs:fn.results.toList=rs) (hnd:decide (rs.map slotOf).Nodup=true)
  (hv:forceL (args++List.replicate (fn.ntmps - args.length) .any) fun fr=>vc P T Z M c fr fun e fr'=>Ends T e rs fr' d):Sem P f args d:=by
 refine ⟨hen,hcalm,fun S w vs hw hl hr=>(run_intro (out:=none) hT hm hf hb hcalm (fun d hd t ht => ?_) hnt hrs hnd (fun d' h=>nomatch h) ?_ S w vs hw hl hr).mono fun e w' ⟨v,S',h1,h2,h3,h4,_⟩=>⟨v,S',h1,h2,h3,h4⟩⟩
 ·have hno:=List.all_eq_true.1 hargs d hd
  simp only [Bool.or_eq_true] at hno
  rcases hno with h|h
  ·exact (D.calm_men h ht).elim
  ·exact (D.passes_men h ht).elim
 ·rw [forceL_eq] at hv
  exact ⟨fun S w a hF Q' hQ=>(vc_sound hT hm c hv).h S w a hF Q' fun e fr' S' w' a' k t f=>hQ e fr' S' w' a' ⟨k,trivial⟩ t f⟩
theorem semO_intro (hT:TOk P T Z) (hm:P.follows .mixedOrders=true) {f:Nat} {fn:Func} {c:Code} {cs cs':List D} {d:D} (hf:P.funcs[f]?=some fn) (hen:Enters P f) (hb:fn.body=some c) (hcalm:d.calm=true) (hc:cs.all D.calm1=true) (hc':cs'.all D.calm1=true) (hargs:args.all D.passes=true) (hnt:Nat.ble (args.length+1) fn.ntmps=true)
  {rs:List ResultVar} (hrs:fn.results.toList=rs) (hnd:decide (rs.map slotOf).Nodup=true) (hr0:(rs.all fun r => !Nat.beq (slotOf r) 0)=true)
  (hv:forceL (.obj cs::args++List.replicate (fn.ntmps - (args.length+1)) .any) fun fr=>vc P T Z M c fr fun e fr'=>EndsO T e rs fr' d (some (.obj cs'))):SemO P f (.obj cs) args d (some (.obj cs')):=by
 refine ⟨hen,hcalm,fun d' h=>by cases h;exact hc',fun S w v0 vs hw hr hl hfz => ?_⟩
 rw [forceL_eq] at hv
 have hv':=vc_sound hT hm c hv
 refine (run_intro (args:=.obj cs::args) (out:=some (.obj cs')) hT hm hf hb hcalm (fun d hd t ht => ?_) (by simpa using hnt) hrs hnd (fun d' h=>by cases h;exact ⟨hc',hr0,cs,rfl⟩) (by simpa using hv') S w (v0::vs) hw (by simp [hl]) (fun i d v hd hv => ?_)).mono fun e w' ⟨v,S',h1,h2,h3,h4,h5⟩=>⟨v,S',h1,h2,h3,h4,fun d' hd'=>h5 d' v0 hd' rfl⟩
 ·rcases List.mem_cons.1 hd with rfl|hd
  ·exact D.left_men (d:=.obj cs) hc ht
  ·exact D.passes_men (List.all_eq_true.1 hargs d hd) ht
 ·cases i with
  |zero=>cases hd;cases hv;exact hr
  |succ i=>exact .fz (hfz i d v (by simpa using hd) (by simpa using hv))
end
end Go.Proofs.YtindehjiaknokaaGreatDoor
namespace Go.Proofs.YtindehjiaknokaaGreatDoor
set_option linter.unusedSimpArgs false
set_option linter.unusedVariables false
open Go.RowKit
variable {args ds':List D} {out:Option D}
theorem SPLT:(∀ {α:Type} [BEq α] [LawfulBEq α] {a b:α},(a != b)=true↔a ≠ b)∧(∀ {α:Type} (a b:α),(a ≠ b)=¬ (a=b))∧(∀ {α:Type} [BEq α] [LawfulBEq α] {a b:α},(a != b)=false↔a=b)∧(∀ {α:Type} [BEq α] [LawfulBEq α] {a b:α},(a == b)=true↔a=b)∧
  (∀ {α:Type} [BEq α] [LawfulBEq α] {a b:α},(a == b)=false↔a ≠ b)∧(∀ {p:Prop} [Decidable p],(decide p=true)=p)∧(∀ {p:Prop} [Decidable p],decide p=false↔¬ p)∧(∀ b:Bool,((!b)=true)=(b=false))∧(∀ b:Bool,((!b)=false)=(b=true))∧(∀ a b:Bool,((a && b)=true)=(a=true∧b=true))∧
  (∀ a b:Bool,((a || b)=true)=(a=true∨b=true))∧(∀ {a b:Bool},(a && b)=false↔a=false∨b=false)∧(∀ {a b:Bool},(a || b)=false↔a=false∧b=false)∧(∀ {a b:Int},¬ a < b↔b≤a)∧(∀ {a b:Int},¬ a≤b↔b < a)∧(∀ b:Bool,(¬ (b=true))=(b=false))∧(∀ b:Bool,(¬ (b=false))=(b=true))∧
  (∀ {α β:Type} {as:List α} (f:α→β),(as.map f).length=as.length)∧(∀ {α:Type} (a:α) (as:List α),(a::as).length=as.length+1)∧(∀ {α:Type},([]:List α).length=0):=by
 refine ⟨?_,?_,?_,?_,?_,?_,?_,?_,?_,?_,?_,?_,?_,?_,?_,?_,?_,?_,?_,?_⟩<;>intros<;>first|exact Bool.and_eq_false_iff|exact Bool.or_eq_false_iff|simp
theorem dG {ops:List Oper} {ok:Nat→Bool} {F:Nat→Prop} (h1:ok (effOf ops 0)=true) (h2:F (effOf ops 0)):DrawR ops ok F:=⟨_,h1,h2⟩
theorem DrawR.at {ops:List Oper} {ok:Nat→Bool} {F:Nat→Prop} (d m:Nat) (h0:(match ops with|o::_=>o.dst | []=>none)=some d) (h1:ok m=true) (h2:F m):DrawR ops ok F:=⟨m,h1,h2⟩
theorem rR {T:Nat→Option TI} {rs:List ResultVar} {fr:List D} {d:D} (h:RetOk T rs fr d):Ends T .ret rs fr d:=⟨.inr rfl,h⟩
theorem rE {T:Nat→Option TI} {rs:List ResultVar} {fr:List D} {d:D} (h:RetOk T rs fr d):Ends T .normal rs fr d:=⟨.inl rfl,h⟩
theorem oR {T:Nat→Option TI} {rs:List ResultVar} {fr:List D} {d:D} (h:RetOk T rs fr d) (o:OutOk fr out):EndsO T .ret rs fr d out:=⟨rR h,o⟩
theorem oN {T:Nat→Option TI} {rs:List ResultVar} {fr:List D} {d:D} (h:RetOk T rs fr d) (o:OutOk fr out):EndsO T .normal rs fr d out:=⟨rE h,o⟩
theorem givesl {P:Program} {f:Nat} {d:D} (h:Gives P f args d) (flat:d.flat=true):GivesL P f args d:=⟨flat,h⟩
theorem giveso_g {P:Program} {f:Nat} {d0 d1:D} {d:D} (hs:SemO P f d1 ds' d out) (h:d0=d1∧DLes args ds'∧ds'.all D.passes=true):GivesO P f d0 args d out:=⟨d1,ds',h.1,h.2.1,h.2.2,hs⟩
theorem DLe.of_eq {d d':D} (h:d=d'):DLe d d':=h ▸ .refl d
theorem shr_one {k:IntKind} (p:Int):0≤(1:Int)∧(1:Int)≤k.bits∧p / 2 ^ (1:Int).toNat=p / 2:=⟨by decide,by cases k<;>decide,rfl⟩
theorem rle_refl {d:D}:RLe d d:=.le (.refl d)
theorem rle_int {k:IntKind} {a b:Int} (h:a=b):RLe (.int k a) (.int k b):=h ▸ rle_refl
theorem rle_bool {a b:Bool} (h:a=b):RLe (.bool a) (.bool b):=h ▸ rle_refl
theorem rle_str {a b:List UInt8} (h:a=b):RLe (.str a) (.str b):=h ▸ rle_refl
theorem rle_sl0 {m sz:Nat} {a b:List (List D)} (h:a=b):RLe (.sl m sz a) (.sl 0 sz b):=h ▸ .frz rfl (.refl _)
theorem rle_nil {m sz:Nat} {b:List (List D)} (h:b = []):RLe .nil (.sl m sz b):=by subst h;exact .le (.nil m sz)
inductive LLe:List (List D)→List (List D)→Prop
 |refl (l:List (List D)):LLe l l
 |cons {r r':List D} {l l':List (List D)} (h:DLes r r') (hs:LLe l l'):LLe (r::l) (r'::l')
 |app {a a' b b':List (List D)} (h:LLe a a') (hs:LLe b b'):LLe (a++b) (a'++b')
 |eq {l l':List (List D)} (h:l=l'):LLe l l'
theorem LLe.get {l l':List (List D)} (h:LLe l l'):l'.length=l.length∧∀ (k:Nat) (r r':List D),l[k]?=some r→l'[k]?=some r'→DLes r r':=by
 induction h with
 |refl l=>exact ⟨rfl,fun k r r' h1 h2=>by rw [h1] at h2;cases h2;exact DLes.refl _⟩
 |eq h=>subst h;exact ⟨rfl,fun k r r' h1 h2=>by rw [h1] at h2;cases h2;exact DLes.refl _⟩
 |cons h _ ih=>
  refine ⟨by simp [ih.1],fun k r r' h1 h2 => ?_⟩
  cases k with
  |zero=>cases h1;cases h2;exact h
  |succ k=>exact ih.2 k r r' (by simpa using h1) (by simpa using h2)
 |@app a a' b b' _ _ ih1 ih2=>
  refine ⟨by simp [ih1.1,ih2.1],fun k r r' h1 h2 => ?_⟩
  by_cases hk:k < a.length
  ·rw [List.getElem?_append_left hk] at h1
   rw [List.getElem?_append_left (by rw [ih1.1];exact hk)] at h2
   exact ih1.2 k r r' h1 h2
  ·rw [List.getElem?_append_right (by omega)] at h1
   rw [List.getElem?_append_right (by rw [ih1.1];omega),ih1.1] at h2
   exact ih2.2 _ r r' h1 h2
theorem dle_agg {a b:List D} (h:DLes a b):DLe (.agg a) (.agg b):=.agg h.len fun _ _ _ h1 h2=>h.get h1 h2
theorem rle_agg {a b:List D} (h:DLes a b):RLe (.agg a) (.agg b):=.le (dle_agg h)
theorem dle_int {k:IntKind} {a b:Int} (h:a=b):DLe (.int k a) (.int k b):=h ▸ .refl _
theorem dle_bool {a b:Bool} (h:a=b):DLe (.bool a) (.bool b):=h ▸ .refl _
theorem dle_nil {m sz:Nat} {b:List (List D)} (h:b = []):DLe .nil (.sl m sz b):=by subst h;exact .nil m sz
theorem idx_some {α:Type} {f:α→List D} {l:List α} {j:Int} {x:α} (h0:0≤j) (h:l[j.toNat]?=some x):0≤j∧(l.map f)[j.toNat]?=some (f x):=⟨h0,by rw [List.getElem?_map,h];rfl⟩
theorem idx_nat {α:Type} {f:α→List D} {l:List α} {k:Nat} {x:α} (h:l[k]?=some x):0≤(k:Int)∧(l.map f)[(k:Int).toNat]?=some (f x):=idx_some (by omega) h
theorem idx_eq {α:Type} {f:α→List D} {l:List α} {j:Int} {k:Nat} {x:α} (h:l[k]?=some x) (hj:j=k):0≤j∧(l.map f)[j.toNat]?=some (f x):=by subst hj;exact idx_nat h
def look (i:Nat):List (Nat × D)→D
 |[]=>.any
 |(j,d)::r=>match Nat.beq i j with
  |true=>d
  |false=>look i r
def wrs:Code→List Nat
 |.region _ ops _=>ops.toList.filterMap (·.dst)
 |.seq a b=>wrs a++wrs b
 |.cond _ a b=>wrs a++wrs b
 |.block _ a=>wrs a
 |.loop a=>wrs a
 |_ => []
def mem (i:Nat):List Nat→Bool
 |[]=>false
 |j::r=>match Nat.beq i j with
  |true=>true
  |false=>mem i r
def head (ws:List Nat) (l:List (Nat × D)):Nat→List D→List D
 |_,[] => []
 | i,d::r=>(match mem i ws || mem i (l.map (·.1)) with
  |true=>look i l
  |false=>match d with
   |.al u=>match mem u ws with
    |true=>look i l
    |false=>.al u
   |.alc _ _=>look i l
   |.el _ _ _ _ _=>look i l
   |.es _ _ _ _=>look i l
   | d=>d)::head ws l (i+1) r
section
variable {P:Program} {T:Nat→Option TI} {Z:Nat→Option (List Value)} {M:Nat→Bool}
theorem loop_go (hT:TOk P T Z) (hm:P.follows .mixedOrders=true) {c:Code} {fr:List D} {Q:Exit→List D→Prop} {α:Type} (I:α→List (Nat × D)) (pre:α→Prop) (μ:α→Nat) (x0:α) (h0:forceH (head (wrs c) (I x0) 0 fr) (FLe fr)) (hp0:pre x0)
  (step:∀ x,pre x→forceH (head (wrs c) (I x) 0 fr) fun fr1=>vc P T Z M c fr1 fun e fr'=>match e with
   |.normal=>Halt' (∃ y,pre y∧μ y < μ x∧forceH (head (wrs c) (I y) 0 fr) (FLe fr'))
   | e=>Q e fr'):HT P (.loop c) fr Q:=by
 simp only [forceH_eq] at h0 step
 exact vc_loop hT hm (fun x=>head (wrs c) (I x) 0 fr) pre μ x0 h0 hp0 step
end
/-! Closers: each is tried where it is named. -/
theorem DLes.au {a b:List D} (h:DLes a b:=by first|exact DLes.refl _|((repeat (first|exact DLes.nil|((apply DLes.cons);(focus (first|exact DLe.refl _|exact DLe.own _ _|exact DLe.nil _ _|exact DLe.any _)))));(first|done|fail))):DLes a b:=h
theorem pre {p:Prop} (h:p:=by first|exact rfl|assumption|omega|(simp;omega)|(simp;(first|done|fail))):p:=h
theorem preO {p:Prop} (h:p:=by first|(refine ⟨?_,?_,?_⟩;(focus (first|exact rfl|(simp;done)));(focus exact DLes.au);exact rfl)|exact rfl|assumption|omega|(simp;omega)|(simp;(first|done|fail))):p:=h
theorem side {p:Prop} (h:p:=by first|exact idx_nat (by assumption)|exact idx_some (by omega) (by assumption)|exact idx_eq (by assumption) (by omega)|exact shr_one _|exact IntWalk.i64_in _ (by omega)|exact IntWalk.u8_in _ (by omega)|exact ⟨by omega,IntWalk.i64_quo _ _ ⟨by omega,by omega,by omega⟩⟩|exact ⟨by omega,IntWalk.rem_in _ _ (by omega)⟩|exact IntWalk.u64_in _ (by omega)|exact IntWalk.i32_in _ (by omega)|exact rfl|exact ⟨by omega,rfl⟩|exact ⟨by omega,(by decide),IntWalk.i64_in _ (by omega)⟩|exact ⟨by omega,(by decide),rfl⟩|exact ⟨by omega,(by show _≤(64:Int);omega),rfl⟩|exact ⟨rfl,rfl⟩|assumption|exact ⟨by omega,by omega⟩|exact ⟨by omega,by simp;omega⟩|omega|exact ⟨rfl,rfl,by simp only [List.length_map,List.length_append,List.length_cons,List.length_nil];omega⟩|exact ⟨rfl,rfl,by simp;omega⟩|exact ⟨rfl,rfl,by omega⟩|exact ⟨rfl,by simp;omega⟩|exact id|(intro h;simp [h];done)|((repeat (first|exact trivial|exact rfl|apply And.intro));done)|(simp;omega)|(refine ⟨?_,?_,?_⟩<;>first|omega|(simp;done)|(simp;omega))|(simp_all;(first|done|fail))):p:=h
theorem sideG {p:Prop} (h:p:=by first|exact idx_nat (by assumption)|exact idx_some (by omega) (by assumption)|exact idx_eq (by assumption) (by omega)|exact shr_one _|exact IntWalk.i64_in _ (by omega)|exact IntWalk.u8_in _ (by omega)|exact ⟨by omega,IntWalk.i64_quo _ _ ⟨by omega,by omega,by omega⟩⟩|exact ⟨by omega,IntWalk.rem_in _ _ (by omega)⟩|exact IntWalk.u64_in _ (by omega)|exact IntWalk.i32_in _ (by omega)|exact rfl|exact ⟨by omega,rfl⟩|exact ⟨by omega,(by decide),IntWalk.i64_in _ (by omega)⟩|exact ⟨by omega,(by decide),rfl⟩|exact ⟨by omega,(by show _≤(64:Int);omega),rfl⟩|exact ⟨rfl,rfl⟩|assumption|exact ⟨by omega,by omega⟩|exact ⟨by omega,by simp;omega⟩|omega|exact ⟨rfl,rfl,by simp only [List.length_map,List.length_append,List.length_cons,List.length_nil];omega⟩|exact ⟨rfl,rfl,by simp;omega⟩|exact ⟨rfl,rfl,by omega⟩|exact ⟨rfl,by simp;omega⟩|exact id|(intro h;simp [h];done)|((repeat (first|exact trivial|exact rfl|apply And.intro));done)|(simp;omega)|(refine ⟨?_,?_,?_⟩<;>first|omega|(simp;done)|(simp;omega))|exact hc0|exact ⟨hc0,hc0⟩|exact ⟨hc0,hc0,hc0⟩|(simp only [Bool.and_eq_true] at hc0;simp [hc0];done)|(simp_all;(first|done|fail))):p:=h
theorem noB {p:Prop} (h:p:=by first|contradiction|exact absurd hb (by assumption)|exact absurd (by assumption) hb|(exfalso;omega)|(exfalso;simp at hb;(first|done|fail))):p:=h
theorem endR {p:Prop} (h:p:=by first|exact trivial|exact DLes.nil|with_reducible exact DLe.refl _|exact DLe.any _|with_reducible exact rle_refl|exact rle_bool rfl|exact rle_int rfl|exact rle_nil rfl|exact rle_sl0 rfl):p:=h
theorem endF {p:Prop} (h:p:=by first|exact DLes.nil|with_reducible exact DLe.refl _|exact DLe.any _):p:=h
theorem endF2 {p:Prop} (h:p:=by first|exact DLe.refl _|exact dle_int (by omega)|exact dle_nil rfl|exact DLe.own _ _):p:=h
theorem gx {P:Program} {f:Nat} {d:D} {G:Prop} (hs:Sem P f ds' d) (k:Gives P f args d→G:=by first|exact id|exact fun h=>givesl h rfl) (hl:DLes args ds':=by exact DLes.au) (hp:ds'.all D.passes=true:=by exact rfl):G:=k ⟨ds',hl,hp,hs⟩
theorem and0 {p q:Prop} (h2:q) (h1:p:=by first|exact hc0|exact ⟨hc0,hc0⟩|exact ⟨hc0,hc0,hc0⟩):p∧q:=⟨h1,h2⟩
/-! short names -/
theorem eN {F:Int→Prop} {r:Int} (h:F r):NumE F:=⟨r,h⟩
theorem eI {F:List D→Prop} {r:List D} (h:F r):IdxE F:=⟨r,h⟩
theorem eT {F:List UInt8→Prop} {s:List UInt8} (h:F s):TextE F:=⟨s,h⟩
theorem eC {F:D→Prop} {d:D} (h:F d):CallE F:=⟨d,h⟩
theorem cD {b:Bool} {x y:Prop} (t:b=true→x) (f:b=false→y):CondD b x y:=⟨t,f⟩
theorem sD {s q:Prop} (side:s) (rest:q):SideD s q:=⟨side,rest⟩
theorem rH {p:Prop} (h:p):Halt' p:=⟨h⟩
theorem kB {b:Bool} {F:Prop} (h1:b=true) (h2:F):KerB b F:=⟨h1,h2⟩
theorem dC {d d':D} {ds:List D} (h:DLe d d') (hs:DLes ds ds'):DLes (d::ds) (d'::ds'):=.cons h hs
theorem finR {p:Prop} (h:p:=by repeat' ((conv=>whnf);first|exact endR|(with_reducible first|apply And.intro|apply oR|apply oN|apply DLes.cons))):p:=h
theorem finF {p:Prop} (h:p:=by (conv=>whnf);refine ⟨?_,by rfl⟩;repeat' ((conv=>whnf);first|exact endF|exact endF2|with_reducible apply DLes.cons)):p:=h
end Go.Proofs.YtindehjiaknokaaGreatDoor
namespace Go.Proofs.YtindehjiaknokaaGreatDoor
set_option linter.unusedSimpArgs false
set_option linter.unusedVariables false
open Go.RowKit
variable {args:List D} {rows:List (List D)}
theorem made_rows {S:Sig} {w w':World} (hw:WF S w) (hx:Below w.heap.size w w') {v:Value} {sz:Nat} {news:List Value} {t:TypeId} (hall:∀ r ∈ rows,r.length=sz) (h1:∀ u ∈ news,u.oneCell'=true)
  (hk:∀ (k:Nat) (r:List D) (j:Nat) (d:D),rows[k]?=some r→r[j]?=some d→∃ u,news[k * sz+j]?=some u∧Fz S.lim w u d) (ho:w'.ownsRow w.heap.size t sz v rows.length news):∃ S',WF S' w'∧Trans S w S' w'∧Rep S' w' .res v (.sl 2 sz rows):=by
 have hx':Ext w w':=hx
 have hp:=PT.ext' hw hx'
 rcases ho.2 with ⟨rfl,h0⟩|⟨g,cap,cur,rfl,hb,hg,hnc,hcm,hcs,ht⟩
 ·have:rows = []:=List.eq_nil_of_length_eq_zero h0
  subst this
  exact ⟨S,hp.wf,hp.trans,.fz (.slNil 2 sz)⟩
 ·have hlt:g < w'.heap.size:=(Array.getElem?_eq_some_iff.1 hg).1
  have hne:∀ b,b < w.heap.size→b ≠ g:=fun b h e=>by omega
  have hq:PT S w (S.set g (some (.res,0))) w':=⟨hx',fun b h=>Sig.set_ne _ _ (hne b h),rfl,⟨fun b x hb'=>by
   by_cases hbg:b=g
   ·subst hbg;exact hlt
   ·rw [Sig.set_ne _ _ hbg] at hb'
    exact hp.wf b x hb',hw.gl.keep fun b h hn=>⟨hx'.block h,(Sig.set_ne _ _ (hne b h)).trans hn⟩⟩⟩
  refine ⟨_,hq.wf,hq.trans,.own ⟨.inr rfl,hg,hnc,hcm,hcs,hall,by rw [Sig.set_at];rfl,fun k r j d hk' hd => ?_⟩⟩
  obtain ⟨u,u1,u2⟩:=hk k r j d hk' hd
  refine ⟨u,?_,h1 u (gMem u1),u2.trans hq.trans⟩
  have hkl:k < rows.length:=(List.getElem?_eq_some_iff.1 hk').1
  have hj:j < sz:=by rw [← hall r (gMem hk')];exact (gLt hd)
  have hlt2:k * sz+j < rows.length * sz:=by
   have:(k+1) * sz≤rows.length * sz:=Nat.mul_le_mul_right _ hkl
   rw [Nat.add_mul] at this
   omega
  rw [← ht,List.getElem?_take,if_pos hlt2,Array.getElem?_toList] at u1
  exact u1
theorem DrawI.at {ops:List Oper} {n:Nat} {F:List (List Bool)→Prop} (d:Nat) (L:List (List Bool)) (h0:(match ops with|o::_=>o.dst | []=>none)=some d) (h1:okI ops n L=true) (h2:F L):DrawI ops n F:=⟨L,h1,h2⟩
theorem Sem.frozen {P:Program} {f sz:Nat} (h:Sem P f args (.sl 2 sz rows)):Sem P f args (.sl 0 sz rows):=by
 refine ⟨h.1,rfl,fun S w vs hw hl hr=>(h.2.2 S w vs hw hl hr).mono fun e w' ⟨v,S',he,hw',ht,hrep⟩ => ?_⟩
 rcases hrep.sl_inv with ⟨rfl,rfl⟩|⟨b,cap,cur,e0,rfl,g⟩
 ·exact ⟨_,S',he,hw',ht,.fz (.slNil 0 sz)⟩
 ·have hown:=g.own
  rw [if_pos rfl] at hown
  have t2:Trans S' w' (S'.set b (some (.res,rows.length * sz))) w':=by
   refine ⟨rfl,rfl,rfl,Nat.le_refl _,fun b' _ hn=>⟨rfl,?_⟩,fun b' p l _ hp hd=>⟨rfl,?_⟩,fun b' p l _ hp=>⟨Keeps.refl _ _,fun x hx => ?_⟩,rfl⟩
   ·have hne:b' ≠ b:=fun e=>by subst e;rw [hown] at hn;cases hn
    rw [S'.set_ne _ hne];exact hn
   ·have hne:b' ≠ b:=fun e=>by subst e;rw [hown] at hp;cases hp;simp [Place.res] at hd
    rw [S'.set_ne _ hne];exact hp
   ·by_cases hne:b'=b
    ·subst hne
     rw [hown] at hp
     cases hp
     exact Nat.zero_le _
    ·rw [S'.set_ne _ hne,hp] at hx
     cases hx
     exact Nat.le_refl _
  have w2:WF (S'.set b (some (.res,rows.length * sz))) w':=hw'.of t2 fun b' x hx=>by
   by_cases hne:b'=b
   ·subst hne;exact hw' _ _ hown
   ·rw [S'.set_ne _ hne] at hx;exact hw' _ _ hx
  have g2:OwnAt (S'.set b (some (.res,rows.length * sz))) w' .res b cap 1 sz rows cur e0:=⟨.inl rfl,g.heap,g.le,g.max,g.size,g.each,by rw [S'.set_at];rfl,fun k r j d hk hd=>by
   obtain ⟨u,u1,u2,u3⟩:=g.cells k r j d hk hd
   exact ⟨u,u1,u2,u3.trans t2⟩⟩
  exact ⟨_,_,he,w2,ht.trans t2,.fz g2.fz⟩
theorem Fz.len {lim:Nat→Option Nat} {w:World} {v:Value} {m sz:Nat} (h:Fz lim w v (.sl m sz rows)):rows.length≤9223372036854775807:=by
 cases h with
 |slNil=>simp
 |slE=>simp
 |sl cv hc hm=>exact Nat.le_trans hc hm
theorem Rep.len {S:Sig} {w:World} {p:Place} {v:Value} {m sz:Nat} (h:Rep S w p v (.sl m sz rows)):rows.length≤9223372036854775807:=by
 cases h with
 |fz h=>exact h.len
 |own g=>exact Nat.le_trans g.le g.max
theorem sem_len {P:Program} {f:Nat} [hen:Enters P f] {d:D} (i:Nat) {m sz:Nat} (hi:args[i]?=some (.sl m sz rows)) (hc:d.calm=true) (h:rows.length≤9223372036854775807→Sem P f args d):Sem P f args d:=
 ⟨hen,hc,fun S w vs hw hl hr=>by
  have hlt:i < vs.length:=by rw [hl];exact (gLt hi)
  exact (h (hr i _ _ hi (List.getElem?_eq_getElem hlt)).len).2.2 S w vs hw hl hr⟩
theorem sem_lenA {P:Program} {f:Nat} [hen:Enters P f] {d:D} (i j:Nat) {m sz:Nat} {cs:List D} (hi:args[i]?=some (.agg cs)) (hj:cs[j]?=some (.sl m sz rows)) (hc:d.calm=true) (h:rows.length≤9223372036854775807→Sem P f args d):Sem P f args d:=
 ⟨hen,hc,fun S w vs hw hl hr=>by
  have hlt:i < vs.length:=by rw [hl];exact (gLt hi)
  obtain ⟨us,_,h2,_,h4⟩:=(hr i _ _ hi (List.getElem?_eq_getElem hlt)).agg_inv
  have hlj:j < us.length:=by rw [h2];exact (gLt hj)
  exact (h (h4 j _ _ hj (List.getElem?_eq_getElem hlj)).len).2.2 S w vs hw hl hr⟩
end Go.Proofs.YtindehjiaknokaaGreatDoor
namespace Go.Proofs.YtindehjiaknokaaGreatDoor
set_option linter.unusedSimpArgs false
set_option linter.unusedVariables false
open Go.RowKit
section
variable {c:UInt8}
def partsAt (c:UInt8):List UInt8→List (List UInt8)
 |[] => [[]]
 |b::r=>if b=c then []::partsAt c r else match partsAt c r with
  |[] => [[b]]
  |h::t=>(b::h)::t
theorem parts_none:∀ {s:List UInt8},c ∉ s→partsAt c s = [s]
 |[],_=>rfl
 |b::r,h=>by
  simp only [List.mem_cons,not_or] at h
  rw [partsAt,if_neg (Ne.symm h.1),parts_none h.2]
theorem parts_app:∀ {a:List UInt8} (r:List UInt8),c ∉ a→partsAt c (a++c::r)=a::partsAt c r
 |[],r,_=>by rw [List.nil_append,partsAt,if_pos rfl]
 |b::a,r,h=>by
  simp only [List.mem_cons,not_or] at h
  rw [List.cons_append,partsAt,if_neg (Ne.symm h.1),parts_app r h.2]
theorem parts_ne:∀ s,partsAt c s ≠ []
 |[]=>by simp [partsAt]
 |b::r=>by
  rw [partsAt]
  split
  ·simp
  ·split<;>simp
theorem cut_at {s:List UInt8} {i:Nat} (h:Lib.indexByte s c=i):c ∉ s.take i∧s=s.take i++c::s.drop (i+1):=by
 obtain ⟨h1,h2⟩:=Lib.indexByte_some h
 refine ⟨fun hm => ?_,?_⟩
 ·obtain ⟨k,hk⟩:=List.mem_iff_getElem?.1 hm
  rw [List.getElem?_take] at hk
  split at hk
  ·rename_i hlt
   exact h2 k hlt hk
  ·cases hk
 ·obtain ⟨hlt,he⟩:=List.getElem?_eq_some_iff.1 h1
  have:=List.drop_eq_getElem_cons hlt
  rw [he] at this
  rw [← this,List.take_append_drop]
theorem splitK_parts:∀ (k:Nat) (s:List UInt8),s.count c≤k→Lib.splitK [c] 0 k s=partsAt c s
 |0,s,h=>by
  rw [Lib.splitK,parts_none]
  intro hm
  have:=List.count_pos_iff.2 hm
  omega
 |k+1,s,h=>by
  rw [Lib.splitK,Lib.index_one]
  split
  ·rename_i he
   rw [parts_none]
   intro hm
   obtain ⟨j,hj⟩:=List.mem_iff_getElem?.1 hm
   exact Lib.indexByte_none (beq_iff_eq.1 he) j hj
  ·rename_i he
   have hge:=Lib.indexByte_ge s c
   obtain ⟨i,hi⟩:∃ i:Nat,Lib.indexByte s c=i:=⟨(Lib.indexByte s c).toNat,by
    have:Lib.indexByte s c ≠ -1:=fun e=>he (beq_iff_eq.2 e)
    omega⟩
   obtain ⟨h1,h2⟩:=cut_at hi
   rw [hi]
   simp only [Int.toNat_natCast,Nat.add_zero,List.length_cons,List.length_nil,Nat.zero_add]
   rw [splitK_parts k (s.drop (i+1)) (by rw [h2,List.count_append,List.count_cons_self] at h;omega)]
   conv=>rhs;rw [h2]
   rw [parts_app _ h1]
theorem split_parts (s:ByteArray):(Lib.splitB ⟨#[c]⟩ 0 (Lib.countB s ⟨#[c]⟩) s).map (·.data.toList)=partsAt c s.data.toList:=by
 rw [Lib.splitB_data]
 exact splitK_parts _ _ (by rw [show Lib.countB s ⟨#[c]⟩=s.data.toList.count c from Lib.count_one c _];exact Nat.le_refl _)
theorem parts_len:∀ s:List UInt8,(partsAt c s).length≤s.length+1
 |[]=>by simp [partsAt]
 |b::r=>by
  have ih:=parts_len r
  rw [partsAt]
  split
  ·simp only [List.length_cons];omega
  ·cases hw:partsAt c r with
   |nil=>simp
   |cons h t=>
    rw [hw] at ih
    simp only [List.length_cons] at ih ⊢
    omega
end
variable {S S':Sig} {b:Nat} {cur cur':Array Value} {e:TypeId} {w w':World}
def Mine (S:Sig) (w:World) (b:Nat):Prop:=b < w.heap.size→∃ p l,S.own b=some (p,l)∧p.r ≠ 0
theorem Mine.of (t:Trans S w S' w') {p:Place} {l:Nat} (ho:S'.own b=some (p,l)) (hp:p.r ≠ 0):Mine S w b:=fun hb=>by
 cases h:S.own b with
 |none=>
  have:=(t.free b hb h).2
  rw [ho] at this;cases this
 |some x=>
  obtain ⟨q,k⟩:=x
  refine ⟨q,k,rfl,fun hq => ?_⟩
  have:=(t.foreign b q k hb h hq).2
  rw [ho] at this
  cases this
  exact hp hq
theorem Mine.back (t:Trans S w S' w') (h:Mine S' w' b):Mine S w b:=fun hb=>by
 obtain ⟨p,l,h1,h2⟩:=h (Nat.lt_of_lt_of_le hb t.size)
 exact Mine.of t h1 h2 hb
theorem Mine.new (h:w.heap.size≤w'.heap.size):Mine S w w'.heap.size:=fun hb=>by omega
theorem Trans.name (t:Trans S w S' w') (hm:Mine S w b) {q q':Place} {m:Nat} (ho:S'.own b=some (q,0)):Trans S w (S'.set b (some (q',m))) w':=by
 refine ⟨t.os,t.tape,t.output,t.size,fun b' hb hn => ?_,fun b' p l hb hs hr => ?_,fun b' p l hb hs => ?_,t.loc2⟩
 ·have hne:b' ≠ b:=fun e=>by
   subst e
   obtain ⟨p,l,h1,_⟩:=hm hb
   rw [hn] at h1;cases h1
  rw [S'.set_ne _ hne]
  exact t.free b' hb hn
 ·have hne:b' ≠ b:=fun e=>by
   subst e
   obtain ⟨p',l',h1,h2⟩:=hm hb
   rw [hs] at h1;cases h1
   exact h2 hr
  rw [S'.set_ne _ hne]
  exact t.foreign b' p l hb hs hr
 ·obtain ⟨h1,h2⟩:=t.held b' p l hb hs
  refine ⟨h1,fun x hx => ?_⟩
  by_cases hne:b'=b
  ·subst hne
   have:=h2 _ ho
   omega
  ·rw [S'.set_ne _ hne] at hx
   exact h2 x hx
structure Writes (w w':World) (b:Nat) (cur cur':Array Value) (e:TypeId):Prop where
 os:w'.os=w.os
 tape:w'.tape=w.tape
 output:w'.output=w.output
 size:w'.heap.size=w.heap.size
 other:∀ b',b' ≠ b→w'.heap[b']?=w.heap[b']?
 was:w.heap[b]?=some (.cells cur e (0,0))
 now:w'.heap[b]?=some (.cells cur' e (0,0))
 same:cur'.size=cur.size
theorem Trans.write {w1 w2:World} (t:Trans S w S' w1) (hm:Mine S w b) {q:Place} (ho:S'.own b=some (q,0)) (h:Writes w1 w2 b cur cur' e):Trans S w S' w2:=by
 refine ⟨h.os.trans t.os,h.tape.trans t.tape,h.output.trans t.output,by rw [h.size];exact t.size,fun b' hb hn => ?_,fun b' p l hb hs hr => ?_,fun b' p l hb hs => ?_,t.loc2⟩
 ·have hne:b' ≠ b:=fun e=>by
   subst e
   obtain ⟨p,l,h1,_⟩:=hm hb
   rw [hn] at h1;cases h1
  rw [h.other b' hne]
  exact t.free b' hb hn
 ·have hne:b' ≠ b:=fun e=>by
   subst e
   obtain ⟨p',l',h1,h2⟩:=hm hb
   rw [hs] at h1;cases h1
   exact h2 hr
  rw [h.other b' hne]
  exact t.foreign b' p l hb hs hr
 ·obtain ⟨h1,h2⟩:=t.held b' p l hb hs
  refine ⟨?_,h2⟩
  by_cases hne:b'=b
  ·subst hne
   have hl:=h2 _ ho
   intro c0 e0 fz hc
   obtain ⟨c1,k1,k2,_⟩:=h1 c0 e0 fz hc
   rw [h.was] at k1
   cases k1
   exact ⟨cur',h.now,h.same.trans k2,fun off ho=>by omega⟩
  ·rw [h.other b' hne]
   exact h1
theorem WF.write (hw:WF S w) {q:Place} (ho:S.own b=some (q,0)) (h:Writes w w' b cur cur' e):WF S w':=
 ⟨fun b' x hx=>by rw [h.size];exact hw b' x hx,hw.gl.keep fun b' _ hn=>⟨h.other b' (fun e=>by subst e;rw [ho] at hn;cases hn),hn⟩⟩
theorem Fz.write {q:Place} (ho:S.own b=some (q,0)) (h:Writes w w' b cur cur' e) {v:Value} {d:D} (hf:Fz S.lim w v d):Fz S.lim w' v d:=by
 have hl:S.lim=(S.set b (some (.res,0))).lim:=by
  funext b'
  by_cases hb:b'=b
  ·subst hb;simp [Sig.lim,S.set_at,ho]
  ·simp [Sig.lim,S.set_ne _ hb]
 have hr:(S.set b (some (.res,0))).own b=some (.res,0):=by rw [S.set_at]
 have t:Trans (S.set b (some (.res,0))) w (S.set b (some (.res,0))) w':=
  (Trans.refl _ w).write (fun _=>⟨_,_,hr,by simp [Place.res]⟩) hr h
 rw [hl] at hf ⊢
 exact hf.trans t
theorem WF.name (hw:WF S w) {x y:Place × Nat} (ho:S.own b=some x):WF (S.set b (some y)) w:=
 ⟨fun b' z hz=>by
  by_cases hb:b'=b
  ·subst hb;exact hw b' x ho
  ·rw [S.set_ne _ hb] at hz;exact hw b' z hz,hw.gl.keep fun b' _ hn=>⟨rfl,by
  by_cases hb:b'=b
  ·subst hb;rw [ho] at hn;cases hn
  ·rw [S.set_ne _ hb];exact hn⟩⟩
theorem PT.name (hw:WF S w) (h:PT S w S' w') {x:Place × Nat} (h0:w.heap.size≤b) (h1:b < w'.heap.size):PT S w (S'.set b (some x)) w':=
 ⟨h.ext,fun b' hb=>(S'.set_ne _ (by omega)).trans (h.own b' hb),h.loc,fun b' y hy=>by
  by_cases hb:b'=b
  ·subst hb;exact h1
  ·rw [S'.set_ne _ hb] at hy;exact h.wf b' y hy,hw.gl.keep fun b' hb hn=>⟨h.ext.block hb,by rw [S'.set_ne _ (by omega),h.own b' hb];exact hn⟩⟩
theorem PT.write {w1 w2:World} (hw:WF S w) (h:PT S w S' w1) (h0:w.heap.size≤b) (hwr:Writes w1 w2 b cur cur' e):PT S w S' w2:=
 ⟨⟨hwr.os.trans h.ext.os,hwr.tape.trans h.ext.tape,hwr.output.trans h.ext.output,by rw [hwr.size];exact h.ext.sizeOf,fun b' hb=>(hwr.other b' (by omega)).trans (h.ext.block hb)⟩,h.own,h.loc,fun b' y hy=>by rw [hwr.size];exact h.wf b' y hy,hw.gl.keep fun b' hb hn=>⟨(hwr.other b' (by omega)).trans (h.ext.block hb),by rw [h.own b' hb];exact hn⟩⟩
theorem Writes.row (hh:w.heap[b]?=some (.cells cur e (0,0))) (cur':Array Value) (hs:cur'.size=cur.size):Writes w (w.setRow b cur') b cur cur' e:=
 ⟨rfl,rfl,rfl,by simp [World.setRow],fun b' hb=>setRow_other w b b' _ hb,hh,setRow_heap w b cur _ e (0,0) hh,hs⟩
end Go.Proofs.YtindehjiaknokaaGreatDoor
