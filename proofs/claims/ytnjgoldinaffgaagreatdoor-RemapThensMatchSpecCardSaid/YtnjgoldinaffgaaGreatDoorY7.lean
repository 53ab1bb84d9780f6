/- Operations under guards, and regions in the order of the text. Regions whose order Go leaves open: whatever the order, the data are the same. -/
import Derived.Test.YtnjgoldinaffgaaGreatDoorY6
namespace Go.Proofs.YtnjgoldinaffgaaGreatDoor
set_option linter.unusedSimpArgs false
set_option linter.unusedVariables false
open Go.RowKit
variable {K:List D→Prop} {w:World}
section
variable {P:Program} {T:Nat→Option TI} {Z:Nat→Option (List Value)} {M:Nat→Bool}
theorem kK {S:Sig} {a:Act} {fr:List D} {l:List Oper} {o:Oper} {j:Nat} {want c:Bool} (h:FR S w a fr) (hg:o.guard=some (j,want)) (hc:pC l fr j want=some c):Region.wanted o (yielded l.toArray a.tmps)=c:=by
 unfold pC at hc
 split at hc
 ·rename_i oj hj
  split at hc
  ·rename_i t ht
   have hy:∀ v,a.tmps[t]?=some v→((l.toArray[j]?).bind (·.dst)).bind (a.tmps[·]?)=some v:=fun v hv=>by
    simp only [List.getElem?_toArray,hj,Option.bind_some,ht,hv]
   split at hc
   ·rename_i b hd
    obtain ⟨v,hv,hs⟩:=h.at hd
    obtain rfl:=hs.1.bool_inv
    refine pO hg (hy _ hv) ?_
    cases want<;>simp only [Option.some.injEq] at hc<;>subst hc<;>simp [rP]
   ·rename_i c0 b hd
    obtain ⟨v,hv,hs⟩:=h.at hd
    obtain ⟨k1,k0⟩:=hs.1.gd_inv
    refine pO hg (hy _ hv) ?_
    cases c0 with
    |true=>
     obtain rfl:=(Rep.fz (S:=S) (p:=.dead) (k1 rfl)).bool_inv
     cases want<;>simp only [Option.some.injEq] at hc<;>subst hc<;>simp [rP]
    |false=>
     rw [k0 rfl]
     cases want<;>simp only [Option.some.injEq] at hc<;>subst hc<;>simp [rP,undef]
   ·cases hc
  ·cases hc
 ·cases hc
theorem wV {S:Sig} {w:World} {a:Act} {fr:List D} (h:FR S w a fr):∀ (xs:List Operand),holds (gds (bD fr) xs)→∀ x ∈ xs,∃ q,Rep S w q (a.eval x) (lS (bD fr x))
 |[],_,x,hx=>by cases hx
 |y::xs,hg,x,hx=>by
  simp only [gds] at hg
  have key:holds (gds (bD fr) xs)∧∃ q,Rep S w q (a.eval y) (lS (bD fr y)):=by
   obtain ⟨q,hq⟩:=h.eval y
   split at hg
   ·rename_i c d hy
    rw [hy] at hq ⊢
    split at hg
    ·rename_i hn
     rw [hn]
     exact ⟨trivial,.dead,.fz (hq.gd_inv.1 hg)⟩
    ·rename_i p hp
     rw [hp]
     exact ⟨hg.2,.dead,.fz (hq.gd_inv.1 hg.1)⟩
   ·rename_i hn
    refine ⟨hg,q,?_⟩
    generalize bD fr y=d at hq hn ⊢
    cases d with
    |gd c d=>exact absurd rfl (hn c d)
    |_=>exact hq
  rcases List.mem_cons.1 hx with rfl|hx
  ·exact key.2
  ·exact wV h xs key.1 x hx
theorem fG {fr:List D} {c:Bool} {d:D}:bM fr (.gd c d):=fun t ht=>by cases ht
theorem vI (hT:TOk P T Z) {S:Sig} {a:Act} {fr:List D} {ty0 u off:Nat} {x:Operand} {c:Bool} {dst:Option Nat} {ty:TypeId} {pos:String} {after:Array Edge} {guard:Option (Nat × Bool)} (h:FR S w a fr) (hev:c=true→a.eval x=.pointer (some ⟨S.loc (u+2),off,none⟩)) (hs:zFJ T ty0 u off c dst fr K):
  (c=true→StepOk P S w a (Oper.mk dst (.load ty0 x) ty pos after guard) K)∧(c=false→∃ fr',K fr'∧FR S w (a.put dst undef) fr'):=by
 have skip:∀ {d:D},bS fr dst (.gd c d) K→c=false→∃ fr',K fr'∧FR S w (a.put dst undef) fr':=fun hp hc=>by
  subst hc
  exact aH h (.fz (.gd (fun e=>by cases e) (fun _=>rfl))) fG hp
 unfold zFJ at hs
 split at hs
 ·rename_i cs hd
  obtain ⟨cv,hcv⟩:=h.loadObj hd
  split at hs
  ·rename_i n fl ks ht
   haveI:=(hT.ty _ _ ht).1
   split at hs
   ·rename_i hb
    simp only [Bool.and_eq_true] at hb
    have hle:=Nat.le_of_ble_eq_true hb.1
    refine ⟨fun hc K' Q hK => ?_,fun hc=>skip hs hc⟩
    have hcell:∀ j,j < n→∃ d,((cs.drop off).take n)[j]?=some d∧w.cell? ⟨S.loc (u+2),off+j,none⟩=some (cv (off+j))∧(cv (off+j)).oneCell'=true∧Fz S.lim w (cv (off+j)) d:=fun j hj=>by
     have hjl:off+j < cs.length:=by omega
     have hg:((cs.drop off).take n)[j]?=some cs[off+j]:=by rw [List.getElem?_take,if_pos hj,List.getElem?_drop,List.getElem?_eq_getElem hjl]
     obtain ⟨h1,h2,h3⟩:=hcv _ _ (List.getElem?_eq_getElem hjl)
     exact ⟨_,hg,h1,h2,D.one_fz h3 (List.all_eq_true.1 hb.2 _ (aK hg))⟩
    have hfz:Fz S.lim w (.agg ((List.range n).map fun j=>cv (off+j)).toArray) (.agg ((cs.drop off).take n)):=by
     refine .agg _ (by simp;omega) (fun v hv => ?_) fun j d v hj hv => ?_
     ·obtain ⟨j,hj,rfl⟩:=List.mem_map.1 hv
      obtain ⟨d,_,_,h2,_⟩:=hcell j (List.mem_range.1 hj)
      exact h2
     ·have hjn:j < n:=by have:=(bC hv);simpa using this
      rw [List.getElem?_map,List.getElem?_range hjn] at hv
      cases hv
      obtain ⟨d',h1,_,_,h4⟩:=hcell j hjn
      rw [hj] at h1
      cases h1
      exact h4
    obtain ⟨fr',k1,k2⟩:=aH (dst:=dst) h (.fz (.gd (fun _=>hfz) (fun e=>by rw [hc] at e;cases e))) fG hs
    refine sI (cs:=(List.range n).map fun j=>cv (off+j)) (hev hc) (fun j v hv => ?_) (by simp) (hK fr' S w _ k1 (Trans.refl S w) k2)
    have hjn:j < n:=by have:=(bC hv);simpa using this
    rw [List.getElem?_map,List.getElem?_range hjn] at hv
    cases hv
    obtain ⟨d',_,h2,_⟩:=hcell j hjn
    exact h2
   ·exact hs.elim
  ·rename_i i hi ht
   haveI:=(hT.ty _ _ ht).one (fun n fl ks e=>hi n fl ks e)
   split at hs
   ·rename_i sz0 rows0 hd'
    refine ⟨fun hc K' Q hK => ?_,fun hc=>skip hs hc⟩
    obtain ⟨y,hy,_,hrep,_⟩:=h.nameC hd hd'
    have hfz:Fz S.lim w y (.sl 0 sz0 rows0):=(Rep.le (.own sz0 rows0) hrep).passes rfl
    obtain ⟨fr',k1,k2⟩:=aH (dst:=dst) h (.fz (.gd (fun _=>hfz) (fun e=>by rw [hc] at e;cases e))) fG hs
    exact fB (hev hc) hy (hK fr' S w _ k1 (Trans.refl S w) k2)
   ·rename_i d _ hd'
    split at hs
    ·rename_i ho
     refine ⟨fun hc K' Q hK => ?_,fun hc=>skip hs hc⟩
     obtain ⟨h1,h2,h3⟩:=hcv _ _ hd'
     have hfz:=D.one_fz h3 ho
     obtain ⟨fr',k1,k2⟩:=aH (dst:=dst) h (.fz (.gd (fun _=>hfz) (fun e=>by rw [hc] at e;cases e))) fG hs
     exact fB (hev hc) h1 (hK fr' S w _ k1 (Trans.refl S w) k2)
    ·exact hs.elim
   ·exact hs.elim
  ·exact hs.elim
 ·exact hs.elim
theorem zIK {S:Sig} {a:Act} {fr:List D} {t sz:Nat} {d0:D} {v:Value} {rows:List (List D)} (h:FR S w a fr) (hd:fr[t]?=some d0) (hn:d0.isObj=false) (hr:Rep S w (cR (some t)) v (.sl 2 sz rows)):
  ∃ S',Trans S w S' w∧FR S' w a ((fr.map (bI t .any)).set t .any)∧Fz S'.lim w v (.sl 0 sz rows):=by
 rcases hr.sl_inv with ⟨rfl,rfl⟩|⟨b,cap,cur,e,rfl,g⟩
 ·exact ⟨S,Trans.refl S w,h.forget hd hn,.slNil 0 sz⟩
 ·have hb:BT S w (S.set b none) w b:=BT.ghost h.wf g.own (by simp [cR,Place.slot]) (fun y hy=>by cases hy)
  have hf:Fz (S.set b none).lim w (.slice (some ⟨b,0,none⟩) rows.length cap) (.sl 0 sz rows):=g.fz2 (fun h=>h.trans hb.tr) rfl (fun k _ s hs=>by simp [Sig.lim,S.set_at] at hs)
  exact ⟨_,hb.tr,h.rebuild hb g.own rfl hd hn (fun v' p hv'=>.fz (.any _)) (fun t ht=>by cases ht) (fun v' hv'=>.fz (.any _)) (fun t ht=>by cases ht),hf⟩
theorem kV (hT:TOk P T Z) {S:Sig} {a:Act} {fr:List D} {o:Oper} {c:Bool} (h:FR S w a fr) (hs:zA P T Z o c fr K):
  (c=true→StepOk P S w a o K)∧(c=false→∃ fr',K fr'∧FR S w (a.put o.dst undef) fr'):=by
 obtain ⟨dst,op,ty,pos,after,guard⟩:=o
 have skip:∀ {d:D},bS fr dst (.gd c d) K→c=false→∃ fr',K fr'∧FR S w (a.put dst undef) fr':=fun hp hc=>by
  subst hc
  exact aH h (.fz (.gd (fun e=>by cases e) (fun _=>rfl))) fG hp
 have rest:∀ {xs:List Operand},xs=op.operands.toList→(opD P T Z (fun x=>lS (bD fr x)) op fun s d=>jN (under c (gds (bD fr) xs) s) (match d.passes with|true=>bS fr dst (.gd c d) K|false=>zEP dst c d fr K))→
   (c=true→StepOk P S w a ⟨dst,op,ty,pos,after,guard⟩ K)∧(c=false→∃ fr',K fr'∧FR S w (a.put dst undef) fr'):=by
  intro xs hxs hs
  subst hxs
  obtain ⟨s,d,h1,h3⟩:=mA (dst:=dst) (ty:=ty) (pos:=pos) (after:=after) (guard:=guard) hT hs
  obtain ⟨hu,h2⟩:=hY.1 h1
  clear h1
  split at h2
  ·rename_i hp
   refine ⟨fun hc => ?_,fun hc=>skip h2 hc⟩
   obtain ⟨hg,hs'⟩:=iU hu hc
   intro K' Q hK
   refine h3 hs' S w a (cR dst) h.wf (fun x hx=>wV h _ hg x hx) K' Q fun v S' w' hpt hr hm => ?_
   obtain ⟨fr',k1,k2⟩:=aH (v:=v) (h.drop hpt) (.fz (.gd (fun _=>hr.passes hp) (fun e=>by rw [hc] at e;cases e))) fG h2
   exact hK fr' S' w' _ k1 hpt.trans k2
  ·unfold zEP at h2
   split at h2
   ·rename_i sz rows t _ _
    split at h2
    ·rename_i d0 hd0
     split at h2
     ·rename_i hob
      rw [aD] at h2
      refine ⟨fun hc => ?_,fun hc => ?_⟩
      ·obtain ⟨hg,hs'⟩:=iU hu hc
       intro K' Q hK
       refine h3 hs' S w a (cR (some t)) h.wf (fun x hx=>wV h _ hg x hx) K' Q fun v S' w' hpt hr hm => ?_
       obtain ⟨S2,t2,f2,z2⟩:=zIK (h.drop hpt) hd0 hob hr
       obtain ⟨fr',k1,k2⟩:=aH (dst:=some t) (v:=v) f2 (.fz (.gd (fun _=>z2) (fun e=>by rw [hc] at e;cases e))) fG h2
       exact hK fr' S2 w' _ k1 (hpt.trans.trans t2) k2
      ·subst hc
       exact aH (dst:=some t) (h.forget hd0 hob) (.fz (.gd (fun e=>by cases e) (fun _=>rfl))) fG h2
     ·exact h2.elim
    ·exact h2.elim
   ·exact h2.elim
 have tmp_ev:∀ {t:Nat} {v:Value},a.tmps[t]?=some v→a.eval (.tmp t)=v:=fun hv=>by simp [Act.eval,Array.getD_eq_getD_getElem?,hv]
 unfold zA at hs
 simp only at hs
 split at hs
 ·rename_i cc x y
  obtain ⟨s,r,hp,h12⟩:=pT hs
  obtain ⟨h1,h2⟩:=hY.1 h12
  refine ⟨fun hc => ?_,fun hc=>skip h2 hc⟩
  obtain ⟨hg,hs'⟩:=iU h1 hc
  obtain ⟨p,h3,h4⟩:=kP (wV h [cc] hg cc (by simp)) (h.eval _) (h.eval _) hp hs'
  intro K' Q hK
  refine sM h3 ?_
  rw [h4]
  obtain ⟨fr',k1,k2⟩:=aH (v:=.bool r) h (.fz (.gd (fun _=>.bool r) (fun e=>by rw [hc] at e;cases e))) fG h2
  exact hK fr' S w _ k1 (Trans.refl S w) k2
 ·rename_i u
  split at hs
  ·rename_i ds hd
   obtain ⟨_,_,r3⟩:=iN h hd 0
   have hown:S.own (S.loc (u+2))=some (.slot u,0):=by
    obtain ⟨v0,hv0,hs0⟩:=h.at hd
    obtain ⟨b,cur,e,_,hb,hloc,_⟩:=hs0.1.obj_inv
    rw [hloc]
    exact hb
   have hro:bM fr (.gref c u 0):=fun t ht=>by cases ht;exact ⟨ds,hd⟩
   refine ⟨fun hc K' Q hK => ?_,fun hc => ?_⟩
   ·obtain ⟨fr',k1,k2⟩:=aH (dst:=dst) (v:=.pointer (some ⟨S.loc (u+2),0,none⟩)) h (.gref hown (by rw [if_pos hc])) hro hs
    exact jK (tmp_ev r3) (hK fr' S w _ k1 (Trans.refl S w) k2)
   ·exact aH h (.gref hown (by rw [if_neg (by rw [hc];decide)])) hro hs
  ·exact rest rfl hs
 ·rename_i u
  split at hs
  ·rename_i c' x off hd
   obtain ⟨hcc,hs⟩:=hs
   obtain ⟨v,hv,hsl⟩:=h.at hd
   have hro:bM fr (.gref c x off):=fun t ht=>hsl.2 t (by cases ht;constructor)
   cases hsl.1 with
   |fz h=>cases h
   |gref hown hv2=>
    refine ⟨fun hc K' Q hK => ?_,fun hc => ?_⟩
    ·rw [if_pos (hcc hc)] at hv2
     obtain ⟨fr',k1,k2⟩:=aH (dst:=dst) (v:=.pointer (some ⟨S.loc (x+2),off,none⟩)) h (.gref hown (by rw [if_pos hc])) hro hs
     exact iG ((tmp_ev hv).trans hv2) (hK fr' S w _ k1 (Trans.refl S w) k2)
    ·exact aH h (.gref hown (by rw [if_neg (by rw [hc];decide)])) hro hs
  ·exact rest rfl hs
 ·rename_i ty0 u i
  split at hs
  ·rename_i ds hd
   split at hs
   ·rename_i ht
    split at hs
    ·rename_i off n ag hfl
     haveI:=(hT.ty _ _ ht).2.1 _ _ _ _ hfl
     obtain ⟨r1,r2,_⟩:=iN h hd off
     obtain ⟨_,_,r3⟩:=iN h hd 0
     have hown:S.own (S.loc (u+2))=some (.slot u,0):=by
      obtain ⟨v0,hv0,hs0⟩:=h.at hd
      obtain ⟨b,cur,e,_,hb,hloc,_⟩:=hs0.1.obj_inv
      rw [hloc]
      exact hb
     have hro:bM fr (.gref c u off):=fun t ht=>by cases ht;exact ⟨ds,hd⟩
     refine ⟨fun hc K' Q hK => ?_,fun hc => ?_⟩
     ·obtain ⟨fr',k1,k2⟩:=aH (dst:=dst) (v:=.pointer (some ⟨S.loc (u+2),off,none⟩)) h (.gref hown (by rw [if_pos hc])) hro hs
      refine bP (tmp_ev r3) (by rw [Nat.zero_add];exact hK fr' S w _ k1 (Trans.refl S w) k2)
     ·exact aH h (.gref hown (by rw [if_neg (by rw [hc];decide)])) hro hs
    ·exact hs.elim
   ·exact hs.elim
  ·rename_i c' x off0 hd
   split at hs
   ·rename_i ht
    split at hs
    ·rename_i off n ag hfl
     haveI:=(hT.ty _ _ ht).2.1 _ _ _ _ hfl
     obtain ⟨hcc,hs⟩:=hs
     obtain ⟨v,hv,hsl⟩:=h.at hd
     have hro:bM fr (.gref c x (off0+off)):=fun t ht=>hsl.2 t (by cases ht;constructor)
     cases hsl.1 with
     |fz h=>cases h
     |gref hown hv2=>
      refine ⟨fun hc K' Q hK => ?_,fun hc => ?_⟩
      ·rw [if_pos (hcc hc)] at hv2
       obtain ⟨fr',k1,k2⟩:=aH (dst:=dst) (v:=.pointer (some ⟨S.loc (x+2),off0+off,none⟩)) h (.gref hown (by rw [if_pos hc])) hro hs
       exact bP ((tmp_ev hv).trans hv2) (hK fr' S w _ k1 (Trans.refl S w) k2)
      ·exact aH h (.gref hown (by rw [if_neg (by rw [hc];decide)])) hro hs
    ·exact hs.elim
   ·exact hs.elim
  ·exact rest rfl hs
 ·rename_i ty0 x
  split at hs
  ·rename_i c' u off hd
   obtain ⟨hcc,hs⟩:=hs
   obtain ⟨v,hv,hsl⟩:=h.at hd
   refine vI hT h (fun hc => ?_) hs
   rw [tmp_ev hv]
   cases hsl.1 with
   |fz h=>cases h
   |gref g hv=>rw [hv,if_pos (hcc hc)]
  ·rename_i ds hd
   obtain ⟨_,_,r3⟩:=iN h hd 0
   exact vI hT h (fun _=>tmp_ev r3) hs
  ·exact rest rfl hs
 ·exact rest rfl hs
theorem kO {S:Sig} {a:Act} {fr:List D} (h:FR S w a fr) (o:Oper):∃ S',Trans S w S' w∧FR S' w a (zCI o fr):=by
 have key:∀ u off,∃ S',Trans S w S' w∧FR S' w a (rM u off fr):=fun u off=>by
  unfold rM
  split
  ·rename_i hd
   split
   ·rename_i hc;exact h.downC hd hc
   ·exact ⟨S,Trans.refl S w,h⟩
  ·exact ⟨S,Trans.refl S w,h⟩
 unfold zCI
 split
 ·split
  ·exact key _ _
  ·exact key _ _
  ·exact ⟨S,Trans.refl S w,h⟩
 ·exact ⟨S,Trans.refl S w,h⟩
theorem dP (hT:TOk P T Z) {l:List Oper} {Q:Exit→Act→World→Prop} {K:List D→Prop}:∀ (r:List Oper) {S:Sig} {w:World} {a:Act} {fr:List D},FR S w a fr→kL P T Z M l r fr K→
  (∀ fr' S' w' a',K fr'→Trans S w S' w'→FR S' w' a' fr'→Q .normal a' w')→wpList P l.toArray Q r a w
 |[],S,w,a,fr,h,hs,hK=>wpList_nil (hK fr S w a hs (Trans.refl S w) h)
 |[o],S,w,a,fr,h,hs,hK=>by
  simp only [kL] at hs
  split at hs
  ·rename_i hg
   refine wpList_plain hg fun K' hK'=>gJ hT h hs K' Q fun fr' S' w' a' k t f=>hK' _ _ (wpList_nil (hK fr' S' w' a' k t f))
  ·rename_i j want hg
   split at hs
   ·rename_i c hc
    have hw:=kK h hg hc
    split at hs
    ·unfold wpList
     rw [hw]
     cases c with
     |true=>
      rw [if_pos rfl]
      exact .inl (gJ hT h (hs.t rfl) _ Q fun fr' S' w' a' k t f=>wpList_nil (hK fr' S' w' a' k t f))
     |false=>
      rw [if_neg (by simp)]
      obtain ⟨fr',k,f⟩:=aH h (.fz (.gd (fun e=>by cases e) (fun _=>rfl))) fG (hs.f rfl)
      exact wpList_nil (hK fr' S w _ k (Trans.refl S w) f)
    ·rw [aD] at hs
     obtain ⟨S1,t1,h1⟩:=kO h o
     obtain ⟨g1,g0⟩:=kV hT h1 hs
     unfold wpList
     rw [hw]
     cases c with
     |true=>
      rw [if_pos rfl]
      exact .inl (g1 rfl _ Q fun fr' S' w' a' k t f=>wpList_nil (hK fr' S' w' a' k (t1.trans t) f))
     |false=>
      rw [if_neg (by simp)]
      obtain ⟨fr',k,f⟩:=g0 rfl
      exact wpList_nil (hK fr' S1 w _ k t1 f)
   ·exact hs.elim
 |o::o2::r,S,w,a,fr,h,hs,hK=>by
  simp only [kL] at hs
  split at hs
  ·rename_i hg
   split at hs
   ·rename_i ty hfa
    have hop:o.op=.alloc ty:=by
     unfold yV at hfa
     split at hfa
     ·rename_i ty' hop
      split at hfa
      ·split at hfa
       ·cases hfa
       ·cases hfa;exact hop
      ·cases hfa
     ·cases hfa
    exact zCN hT h hop hs hg fun fr' S' w' a' k t f=>dP hT r f k fun fr'' S'' w'' a'' k2 t2 f2=>hK fr'' S'' w'' a'' k2 (t.trans t2) f2
   ·split at hs
    ·exact zFk hT h hs hg fun fr' S' w' a' k t f=>dP hT r f k fun fr'' S'' w'' a'' k2 t2 f2=>hK fr'' S'' w'' a'' k2 (t.trans t2) f2
    refine wpList_plain hg fun K' hK'=>gJ hT h hs K' Q fun fr' S' w' a' k t f=>hK' _ _ ?_
    exact dP hT (o2::r) f k fun fr'' S'' w'' a'' k2 t2 f2=>hK fr'' S'' w'' a'' k2 (t.trans t2) f2
  ·rename_i j want hg
   split at hs
   ·rename_i c hc
    have hw:=kK h hg hc
    split at hs
    ·unfold wpList
     rw [hw]
     cases c with
     |true=>
      rw [if_pos rfl]
      exact .inl (gJ hT h (hs.t rfl) _ Q fun fr' S' w' a' k t f=>dP hT (o2::r) f k fun fr'' S'' w'' a'' k2 t2 f2=>hK fr'' S'' w'' a'' k2 (t.trans t2) f2)
     |false=>
      rw [if_neg (by simp)]
      obtain ⟨fr',k,f⟩:=aH h (.fz (.gd (fun e=>by cases e) (fun _=>rfl))) fG (hs.f rfl)
      exact dP hT (o2::r) f k fun fr'' S'' w'' a'' k2 t2 f2=>hK fr'' S'' w'' a'' k2 t2 f2
    ·rw [aD] at hs
     obtain ⟨S1,t1,h1⟩:=kO h o
     obtain ⟨g1,g0⟩:=kV hT h1 hs
     unfold wpList
     rw [hw]
     cases c with
     |true=>
      rw [if_pos rfl]
      exact .inl (g1 rfl _ Q fun fr' S' w' a' k t f=>dP hT (o2::r) f k fun fr'' S'' w'' a'' k2 t2 f2=>hK fr'' S'' w'' a'' k2 ((t1.trans t).trans t2) f2)
     |false=>
      rw [if_neg (by simp)]
      obtain ⟨fr',k,f⟩:=g0 rfl
      exact dP hT (o2::r) f k fun fr'' S'' w'' a'' k2 t2 f2=>hK fr'' S'' w'' a'' k2 (t1.trans t2) f2
   ·exact hs.elim
end
end Go.Proofs.YtnjgoldinaffgaaGreatDoor
namespace Go.Proofs.YtnjgoldinaffgaaGreatDoor
set_option linter.unusedSimpArgs false
set_option linter.unusedVariables false
open Go.RowKit
variable {w:World}
def oT:D→D
 |.sl _ sz rows=>.sl 0 sz rows
 |.mp _ _=>.any
 |d=>d
def D.frz:D→D
 |.sl _ sz rows=>.sl 0 sz rows
 |.mp _ _=>.any
 |.agg cs=>.agg (cs.map oT)
 | .tup ds=>.tup (ds.map fun d=>match d with
  |.agg cs=>.agg (cs.map oT)
  | d=>oT d)
 |d=>d
def fX (d:D):D:=match d.passes with
 |true=>d
 |false=>d.frz
def wT (d:D):Bool:=match d.passes with
 |true=>true
 |false=>match d with
  |.tup ds=>ds.all fun d=>match d with
   |.agg cs=>cs.all D.calm1
   |d=>d.calm1
  |.agg cs=>cs.all D.calm1
  |.sl _ _ _=>true
  |_=>false
def bX (fr0 fr:List D):Operand→D
 |.tmp t=>match fr[t]? with
  |some (.al u)=>(fr0[u]?).getD .any
  |some (.obj cs)=>match fr0[t]? with
   |some (.obj _)=>.obj cs
   |_=>.any
  |some (.alc _ _)=>.any
  |some (.el _ _ _ _ _)=>.any
  |some (.nsl _ _ _)=>.any
  |some (.nagg _ _ _ _ _)=>.any
  |some d=>d
  |none=>.any
 |x=>bD [] x
def zN9 (all:List Oper) (t:Nat):Bool:=all.any fun o=>match o.op with
 |.build _ parts=>parts.toList.any fun x=>match x.2 with
  |.tmp y=>Nat.beq y t
  |_=>false
 |_=>false
def sR (fr:List D):List (Nat × Operand)→Option (Nat × Nat × Nat × List D)
 |[]=>none
 |(_,.tmp s)::r=>match fr[s]? with
  |some (.nsl sz n z)=>some (s,sz,n,z)
  |_=>sR fr r
 |_::r=>sR fr r
def zLZ (fr0 fr:List D) (s:Nat):Operand→Option (List D)
 |.tmp y=>match Nat.beq y s with
  |true=>some [.al s]
  |false=>(bX fr0 fr (.tmp y)).cellsOf
 |x=>(bX fr0 fr x).cellsOf
def opG (P:Program) (T:Nat→Option TI) (Z:Nat→Option (List Value)) (fr0 fr:List D) (c:Bool) (op:Op) (K:D→Prop):Prop:=
 opD P T Z (fun x=>lS (bX fr0 fr x)) op fun s d=>jN (under c (gds (bX fr0 fr) op.operands.toList) s) (match d.passes with
  |true=>fR (.gd c d) K
  | false=>False)
def zHZ (P:Program) (T:Nat→Option TI) (Z:Nat→Option (List Value)) (all:List Oper) (cs:Nat) (fr0 fr:List D) (o:Oper) (K:D→Prop):Prop:=
 match o.guard with
 |none=>match o.op with
  |.move (.tmp u)=>match Nat.beq u cs with
   |true=>match fr0[u]? with
    |some _=>K (.al u)
    |none=>False
   |false=>match fr[u]? with
    |some (.sl (_+1) _ _)=>match fr0[u]? with
     |some (.sl (_+1) _ _)=>K (.al u)
     |_=>False
    |some (.al u')=>match Nat.beq u' cs with
     |true=>match fr0[u']? with
      |some _=>K (.al u')
      |none=>False
     |false=>match fr0[u']? with
      |some (.sl (_+1) _ _)=>K (.al u')
      |_=>False
    |some (.obj _)=>match fr0[u]? with
     |some (.obj _)=>K (.ref u 0)
     |_=>False
    |some (.ref x off)=>match fr0[x]? with
     |some (.obj _)=>K (.ref x off)
     |_=>False
    | _=>opD P T Z (bX fr0 fr) o.op fun s d=>jN s (match wT d with
     |true=>fR (fX d) K
     | false=>False)
  |.pick c x y=>zA3 (bX fr0 fr c) x y (bX fr0 fr) fun s d=>jN s (fR d K)
  |.alloc ty=>match Z ty with
   |some zc=>match zc.all Value.oneCell' with
    |true=>fR (.obj (cX zc)) K
    |false=>False
   |none=>False
  |.fieldAddr ty (.tmp u) i=>match fr0[u]? with
   |some (.obj _)=>match T ty with
    |some (.st _ fl _)=>match fl[i]? with
     |some (off,_+1,_)=>K (.ref u off)
     |_=>False
    |_=>False
   |_=>match fr[u]? with
    |some (.ref x off0)=>match fr0[x]? with
     |some (.obj _)=>match T ty with
      |some (.st _ fl _)=>match fl[i]? with
       |some (off,_+1,_)=>K (.ref x (off0+off))
       |_=>False
      |_=>False
     |_=>False
    |some (.el x c0 sz k j)=>match T ty with
     |some (.st _ fl _)=>match fl[i]? with
      |some (off,_+1,_)=>match fr0[x]? with
       |some (.obj _)=>K (.el x c0 sz k (j+off))
       |_=>False
      |_=>False
     |_=>False
    | _=>opD P T Z (bX fr0 fr) o.op fun s d=>jN s (match wT d with
    |true=>fR (fX d) K
    | false=>False)
  |.nilCheck (.tmp u)=>match fr[u]? with
   |some (.ref x off)=>match fr0[x]? with
    |some (.obj _)=>K (.ref x off)
    |_=>False
   | _=>opD P T Z (bX fr0 fr) o.op fun s d=>jN s (match wT d with
    |true=>fR (fX d) K
    | false=>False)
  |.load ty (.tmp u)=>match fr[u]? with
   |some (.ref x off)=>match fr0[x]? with
    |some (.obj ds)=>match ds[off]? with
     |some (.sl 2 _ _)=>match T ty with
      |some (.sl _ _ _ _)=>K (.alc x off)
      |_=>False
     |some (.sl 1 sz rows)=>match T ty with
      |some (.sl _ _ _ _)=>fR (.sl 0 sz rows) K
      |_=>False
     |some d=>match d.one with
      |true=>match T ty with
       |some (.st _ _ _)=>False
       |some _=>fR d K
       |none=>False
      |false=>False
     |none=>False
    |_=>False
   |some (.el x c sz k j)=>match fr0[x]? with
    |some (.obj ds)=>match ds[c]? with
     |some (.sl 2 sz' rows)=>match Nat.beq sz' sz with
      |true=>match T ty with
       |some (.st _ _ _)=>False
       | some _=>IdxE fun r=>SideD (0≤Int.ofNat k∧rows[(Int.ofNat k).toNat]?=some r) (match r[j]? with
        |some d=>match d.one with
         |true=>fR d K
         |false=>False
        | none=>False)
       |none=>False
      |false=>False
     |_=>False
    |_=>False
   | _=>opD P T Z (bX fr0 fr) o.op fun s d=>jN s (match wT d with
    |true=>fR (fX d) K
    | false=>False)
  |.indexAddr ty (.tmp t) y=>match fr[t]? with
   |some (.alc x off)=>match fr0[x]? with
    |some (.obj ds)=>match ds[off]? with
     |some (.sl 2 sz rows)=>match T ty,bX fr0 fr y with
      |some (.sl _ sz' _ _),.int _ j=>match Nat.beq sz' sz with
       |true=>SideD (0≤j∧j < rows.length) (K (.el x off sz j.toNat 0))
       |false=>False
      |_,_=>False
     |_=>False
    |_=>False
   | _=>opD P T Z (bX fr0 fr) o.op fun s d=>jN s (match wT d with
    |true=>fR (fX d) K
    | false=>False)
  |.makeSlice t l c=>match o.dst with
   |some t0=>match zN9 all t0 with
    |true=>match T t,bX fr0 fr l,bX fr0 fr c with
     |some (.sl _ sz by' zc),.int .i64 q,.int .i64 q2=>match Nat.ble by' 1000 && (zc.all Value.oneCell' && (cX zc).all D.flat1) with
      |true=>SideD (1≤q∧q≤q2∧q2≤1000000) (K (.nsl sz q.toNat (cX zc)))
      |false=>False
     |_,_,_=>False
    | false=>opD P T Z (bX fr0 fr) o.op fun s d=>jN s (match wT d with
    |true=>fR (fX d) K
    | false=>False)
   | none=>opD P T Z (bX fr0 fr) o.op fun s d=>jN s (match wT d with
    |true=>fR (fX d) K
    | false=>False)
  |.build ty parts=>match sR fr parts.toList with
   |some (s,sz,n,z)=>match T ty,Z ty with
    |some (.st _ fl _),some zc=>match zc.all Value.oneCell' with
     |true=>match lA (fl.map fun x=>(x.1,x.2.1)) (cX zc) (parts.toList.map fun x=>(x.1,zLZ fr0 fr s x.2)) with
      |some cs=>match zLQ cs with
       |some off=>match (cs.set off .nil).all D.one with
        |true=>gG (cs.set off .nil) fun cs=>K (.nagg cs off sz n z)
        |false=>False
       |none=>False
      |none=>False
     |false=>False
    |_,_=>False
   | none=>opD P T Z (bX fr0 fr) o.op fun s d=>jN s (match wT d with
    |true=>fR (fX d) K
    | false=>False)
  | _=>opD P T Z (bX fr0 fr) o.op fun s d=>jN s (match wT d with
   |true=>fR (fX d) K
   | false=>False)
 |some (j,want)=>match pC all fr j want with
  |some c=>match o.op with
   |.pick cc x y=>zA3 (lS (bX fr0 fr cc)) x y (bX fr0 fr) fun s d=>jN (under c (gds (bX fr0 fr) [cc]) s) (K (.gd c d))
   |.move (.tmp u)=>match fr0[u]? with
    |some (.obj _)=>K (.gref c u 0)
    |_=>opG P T Z fr0 fr c o.op K
   |.nilCheck (.tmp u)=>match fr[u]? with
    |some (.gref c' x off)=>match fr0[x]? with
     |some (.obj _)=>SideD (c=true→c'=true) (K (.gref c x off))
     |_=>False
    |_=>opG P T Z fr0 fr c o.op K
   |.fieldAddr ty (.tmp u) i=>match fr[u]? with
    |some (.gref c' x off0)=>match fr0[x]? with
     |some (.obj _)=>match T ty with
      |some (.st _ fl _)=>match fl[i]? with
       |some (off,_+1,_)=>SideD (c=true→c'=true) (K (.gref c x (off0+off)))
       |_=>False
      |_=>False
     |_=>False
    |_=>opG P T Z fr0 fr c o.op K
   |.load ty (.tmp u)=>match fr[u]? with
    |some (.gref c' x off)=>match fr0[x]? with
     |some (.obj ds)=>match ds[off]? with
      |some (.sl 1 sz rows)=>match T ty with
       |some (.sl _ _ _ _)=>SideD (c=true→c'=true) (fR (.gd c (.sl 0 sz rows)) K)
       |_=>False
      |some d=>match d.one with
       |true=>match T ty with
        |some (.st _ _ _)=>False
        |some _=>SideD (c=true→c'=true) (fR (.gd c d) K)
        |none=>False
       |false=>False
      |none=>False
     |_=>False
    |_=>opG P T Z fr0 fr c o.op K
   |_=>opG P T Z fr0 fr c o.op K
  |none=>False
def zEf (P:Program) (cs:Nat) (d0:D) (fr0 fr:List D) (o:Oper) (K:D→Prop):Prop:=
 match o.guard with
 |some _=>False
 |none=>match o.op with
  |.call c=>match c.callee with
   |.value (.func f)=>match c.args.toList with
    |.tmp t::xs=>match Nat.beq t cs || (match fr[t]? with|some (.al u)=>Nat.beq u cs|_=>false) with
     |true=>match d0 with
      | .sl (m+1) sz rows=>CallO fun d out=>SideD (uO P f (.sl (m+1) sz rows) (xs.map (bX fr0 fr)) d out) (match wT d with
       |true=>fR (fX d) K
       | false=>False)
      |_=>False
     |false=>False
    |_=>False
   |_=>False
  |_=>False
def vcQ (P:Program) (T:Nat→Option TI) (Z:Nat→Option (List Value)) (all:List Oper) (k cs:Nat) (d0:D) (fr0:List D):Nat→List Oper→List D→(List D→Prop)→Prop
 |_,[],fr,K=>K fr
 |i,o::r,fr,K=>
  let K':=fun d=>match o.dst with
   |none=>vcQ P T Z all k cs d0 fr0 (i+1) r fr K
   |some t=>match fr[t]? with
    |some d1=>match d1.owns || Nat.beq t cs with
     |false=>aN (fr.set t d) fun fr=>vcQ P T Z all k cs d0 fr0 (i+1) r fr K
     |true=>False
    |none=>False
  match Nat.beq i k with
  |false=>zHZ P T Z all cs fr0 fr o K'
  |true=>zEf P cs d0 fr0 fr o K'
section
variable {P:Program} {T:Nat→Option TI} {Z:Nat→Option (List Value)}
theorem oU (S:Sig) (w:World) (hw:WF S w):∃ p:Place,p.r ≠ 0∧p.path ≠ []∧∀ b x,S.own b=some x→¬ x.1.under p:=by
 have key:∀ n,∃ N,∀ b x,b < n→S.own b=some x→∀ y ∈ x.1.path,y < N:=by
  intro n
  induction n with
  |zero=>exact ⟨0,fun b x hb=>by omega⟩
  |succ n ih=>
   obtain ⟨N,hN⟩:=ih
   have hl:∀ l:List Nat,∃ M,∀ y ∈ l,y < M:=by
    intro l
    induction l with
    |nil=>exact ⟨0,fun y hy=>by cases hy⟩
    |cons x l ih=>
     obtain ⟨M,hM⟩:=ih
     exact ⟨max M (x+1),fun y hy=>by
      rcases List.mem_cons.1 hy with rfl|hy
      ·omega
      ·have:=hM y hy;omega⟩
   cases ho:S.own n with
   | none=>exact ⟨N,fun b x hb hx=>by
     by_cases hbn:b=n
     ·subst hbn;rw [ho] at hx;cases hx
     ·exact hN b x (by omega) hx⟩
   |some z=>
    obtain ⟨M,hM⟩:=hl z.1.path
    exact ⟨max N M,fun b x hb hx y hy=>by
     by_cases hbn:b=n
     ·subst hbn;rw [ho] at hx;cases hx;have:=hM y hy;omega
     ·have:=hN b x (by omega) hx y hy;omega⟩
 obtain ⟨N,hN⟩:=key w.heap.size
 refine ⟨⟨2,[N]⟩,by simp,by simp,fun b x hx hu => ?_⟩
 obtain ⟨_,l,hl⟩:=hu
 have:=hN b x (hw b x hx) hx N (by rw [hl];simp)
 omega
theorem Fz.frz1 {lim:Nat→Option Nat} {v:Value} {d:D} (h:Fz lim w v d):Fz lim w v (oT d):=by
 cases d with
 |sl m sz rows=>
  cases h with
  |slNil=>exact .slNil 0 sz
  |slE=>exact .slE _ sz
  |sl cv a1 a2 a3 a4 a5=>exact .sl cv a1 a2 a3 a4 a5
 |mp es=>exact .any _
 |_=>exact h
theorem zLT {S S':Sig} {w':World} (hw:WF S w) (hp:PT S w S' w') {p:Place} (hf:∀ b x,S.own b=some x→¬ x.1.under p) {v:Value} {d:D} (hr:Rep S' w' p v d) (ho:wT d=true):Fz S.lim w' v (fX d):=by
 have hlim:∀ {v:Value} {d:D},Fz S'.lim w' v d→Fz S.lim w' v d:=fun h=>h.monoL fun b s hs=>by
  by_cases hb:b < w.heap.size
  ·simp only [Sig.lim,hp.own b hb]
   exact hs
  ·exfalso
   simp only [Sig.lim] at hs
   cases hx:S.own b with
   |none=>rw [hx] at hs;cases hs
   |some x=>exact hb (hw b x hx)
 have one:∀ {q:Place} {v:Value} {d:D},q.under p→Rep S' w' q v d→d.calm1=true→Fz S.lim w' v (oT d):=by
  intro q v d hq hr hc
  cases hr with
  |fz h=>exact hlim h.frz1
  |@own _ b cap m sz rows cur e g=>
   have hb:¬ b < w.heap.size:=fun hb=>hf b _ ((hp.own b hb).symm.trans g.own) hq
   have hnone:S.own b=none:=by
    cases hx:S.own b with
    |none=>rfl
    |some x=>exact absurd (hw b x hx) hb
   exact g.fz2 hlim rfl fun k _ s hs=>by simp [Sig.lim,hnone] at hs
  |mp=>exact .any _
  |obj=>cases hc
  |ref=>cases hc
  |gref=>cases hc
  |fn=>cases hc
  |agg=>cases hc
  |tup=>cases hc
 have agg:∀ {q:Place} {v:Value} {cs:List D},q.under p→Rep S' w' q v (.agg cs)→cs.all D.calm1=true→Fz S.lim w' v (.agg (cs.map oT)):=by
  intro q v cs hq hr hc
  obtain ⟨vs,rfl,h1,h2,h3⟩:=hr.agg_inv
  refine .agg vs (by simp [h1]) h2 fun j d u hd hu => ?_
  rw [List.getElem?_map] at hd
  cases hcj:cs[j]? with
  |none=>rw [hcj] at hd;cases hd
  |some e=>
   rw [hcj] at hd
   cases hd
   exact one (Place.under_trans (Place.at_under _ j) hq) (h3 j e u hcj hu) (List.all_eq_true.1 hc e (aK hcj))
 unfold fX
 split
 ·rename_i hpass
  exact hlim (hr.passes hpass)
 ·rename_i hpass
  unfold wT at ho
  rw [hpass] at ho
  simp only at ho
  split at ho
  ·rename_i ds
   obtain ⟨vs,rfl,h1,h3⟩:=hr.tup_inv
   refine .tup vs (by simp [h1]) fun j d u hd hu => ?_
   rw [List.getElem?_map] at hd
   cases hcj:ds[j]? with
   |none=>rw [hcj] at hd;cases hd
   |some e=>
    rw [hcj] at hd
    cases hd
    have hc1:=List.all_eq_true.1 ho e (aK hcj)
    have h4:=h3 j e u hcj hu
    have hu':=Place.at_under p j
    cases e with
    |agg cs=>exact agg hu' h4 hc1
    |_=>exact one hu' h4 hc1
  ·exact agg (Place.under_refl p) hr ho
  ·exact one (Place.under_refl p) hr rfl
  ·cases ho
def Sig.drop (S:Sig) (u:Nat):Sig:=⟨fun b=>match gR u (S.own b) with
 |true=>none
 | false=>S.own b,S.loc⟩
theorem pA {S:Sig} {u b:Nat} (h:gR u (S.own b)=false):(S.drop u).own b=S.own b:=by
 simp only [Sig.drop,h]
theorem gO {S:Sig} {u b:Nat} {x:Place × Nat} (h:(S.drop u).own b=some x):S.own b=some x∧gR u (S.own b)=false:=by
 simp only [Sig.drop] at h
 split at h
 ·cases h
 ·exact ⟨h,by assumption⟩
theorem zKt {S:Sig} {u:Nat} {v:Value} {d:D} (h:Fz S.lim w v d):Fz (S.drop u).lim w v d:=h.monoL fun b s hs=>by
 simp only [Sig.lim] at hs
 cases hx:(S.drop u).own b with
 |none=>rw [hx] at hs;cases hs
 |some x=>
  rw [hx] at hs
  simp only [Sig.lim]
  rw [(gO hx).1]
  exact hs
theorem zF8 {S:Sig} {u:Nat} (h:WF S w):WF (S.drop u) w:=⟨fun b x hx=>h b x (gO hx).1,h.gl.sig fun b hb=>by
 cases hx:(S.drop u).own b with
 |none=>rfl
 | some x=>rw [(gO hx).1] at hb;cases hb⟩
theorem zM9 {S S':Sig} {w':World} {u:Nat} (hw:WF S w) (ht:Trans (S.hand u) w S' w') {v:Value} {d:D} (hr:Rep S' w' .res v d) (ho:wT d=true):Fz (S.drop u).lim w' v (fX d):=by
 have hold:∀ b x,(S.drop u).own b=some x→S'.own b=some (.dead,x.2):=fun b x hx=>by
  obtain ⟨h1,h2⟩:=gO hx
  have:=(gY ht (hw b x h1) h2).2
  rw [this,h1]
  rfl
 have hlim:∀ {v:Value} {d:D},Fz S'.lim w' v d→Fz (S.drop u).lim w' v d:=fun h=>h.monoL fun b s hs=>by
  simp only [Sig.lim] at hs
  cases hx:(S.drop u).own b with
  |none=>rw [hx] at hs;cases hs
  |some x=>
   rw [hx] at hs
   simp only [Sig.lim]
   rw [hold b x hx]
   exact hs
 have one:∀ {q:Place} {v:Value} {d:D},q.r=1→Rep S' w' q v d→d.calm1=true→Fz (S.drop u).lim w' v (oT d):=by
  intro q v d hq hr hc
  cases hr with
  |fz h=>exact hlim h.frz1
  |@own _ b cap m sz rows cur e g=>
   have hnone:(S.drop u).own b=none:=by
    cases hx:(S.drop u).own b with
    |none=>rfl
    |some x=>
     have h1:=hold b x hx
     rw [g.own] at h1
     have h2:=congrArg Prod.fst (Option.some.inj h1)
     simp only at h2
     rw [h2] at hq
     cases hq
   exact g.fz2 hlim rfl fun k _ s hs=>by simp [Sig.lim,hnone] at hs
  |mp=>exact .any _
  |obj=>cases hc
  |ref=>cases hc
  |gref=>cases hc
  |fn=>cases hc
  |agg=>cases hc
  |tup=>cases hc
 have agg:∀ {q:Place} {v:Value} {cs:List D},q.r=1→Rep S' w' q v (.agg cs)→cs.all D.calm1=true→Fz (S.drop u).lim w' v (.agg (cs.map oT)):=by
  intro q v cs hq hr hc
  obtain ⟨vs,rfl,h1,h2,h3⟩:=hr.agg_inv
  refine .agg vs (by simp [h1]) h2 fun j d u hd hu => ?_
  rw [List.getElem?_map] at hd
  cases hcj:cs[j]? with
  |none=>rw [hcj] at hd;cases hd
  |some e=>
   rw [hcj] at hd
   cases hd
   exact one (q:=q.at j) hq (h3 j e u hcj hu) (List.all_eq_true.1 hc e (aK hcj))
 unfold fX
 split
 ·rename_i hpass
  exact hlim (hr.passes hpass)
 ·rename_i hpass
  unfold wT at ho
  rw [hpass] at ho
  simp only at ho
  split at ho
  ·rename_i ds
   obtain ⟨vs,rfl,h1,h3⟩:=hr.tup_inv
   refine .tup vs (by simp [h1]) fun j d u hd hu => ?_
   rw [List.getElem?_map] at hd
   cases hcj:ds[j]? with
   |none=>rw [hcj] at hd;cases hd
   |some e=>
    rw [hcj] at hd
    cases hd
    have hc1:=List.all_eq_true.1 ho e (aK hcj)
    have h4:=h3 j e u hcj hu
    cases e with
    |agg cs=>exact agg (q:=Place.res.at j) rfl h4 hc1
    |_=>exact one (q:=Place.res.at j) rfl h4 hc1
  ·exact agg rfl hr ho
  ·exact one rfl hr rfl
  ·cases ho
end
end Go.Proofs.YtnjgoldinaffgaaGreatDoor
