/- Operations under guards, and regions in the order of the text. Blocks that a walk by hand owns and writes. -/
import Derived.Test.YtindehjiaknokaaGreatDoorY4
import Derived.Deep.LoopGhost
import Derived.Lib.SplitLaws
import Derived.Lib.IndexBytes
import Derived.Lib.IndexLaws
namespace Go.Proofs.YtindehjiaknokaaGreatDoor
set_option linter.unusedSimpArgs false
set_option linter.unusedVariables false
open Go.RowKit
variable {K:List D→Prop} {w:World}
section
variable {P:Program} {T:Nat→Option TI} {Z:Nat→Option (List Value)} {M:Nat→Bool}
theorem wanted_cond {S:Sig} {a:Act} {fr:List D} {l:List Oper} {o:Oper} {j:Nat} {want c:Bool} (h:FR S w a fr) (hg:o.guard=some (j,want)) (hc:condOf l fr j want=some c):Region.wanted o (yielded l.toArray a.tmps)=c:=by
 unfold condOf at hc
 split at hc
 ·rename_i oj hj
  split at hc
  ·rename_i t ht
   have hy:∀ v,a.tmps[t]?=some v→((l.toArray[j]?).bind (·.dst)).bind (a.tmps[·]?)=some v:=fun v hv=>by
    simp only [List.getElem?_toArray,hj,Option.bind_some,ht,hv]
   split at hc
   ·rename_i b hd
    obtain ⟨v,hv,hs⟩:=h.at hd
    obtain rfl:=hs.1.bool_inv
    refine wanted_at hg (hy _ hv) ?_
    cases want<;>simp only [Option.some.injEq] at hc<;>subst hc<;>simp [boolOf]
   ·rename_i c0 b hd
    obtain ⟨v,hv,hs⟩:=h.at hd
    obtain ⟨k1,k0⟩:=hs.1.gd_inv
    refine wanted_at hg (hy _ hv) ?_
    cases c0 with
    |true=>
     obtain rfl:=(Rep.fz (S:=S) (p:=.dead) (k1 rfl)).bool_inv
     cases want<;>simp only [Option.some.injEq] at hc<;>subst hc<;>simp [boolOf]
    |false=>
     rw [k0 rfl]
     cases want<;>simp only [Option.some.injEq] at hc<;>subst hc<;>simp [boolOf,undef]
   ·cases hc
  ·cases hc
 ·cases hc
theorem gds_rep {S:Sig} {w:World} {a:Act} {fr:List D} (h:FR S w a fr):∀ (xs:List Operand),holds (gds (evalD fr) xs)→∀ x ∈ xs,∃ q,Rep S w q (a.eval x) (strip (evalD fr x))
 |[],_,x,hx=>by cases hx
 |y::xs,hg,x,hx=>by
  simp only [gds] at hg
  have key:holds (gds (evalD fr) xs)∧∃ q,Rep S w q (a.eval y) (strip (evalD fr y)):=by
   obtain ⟨q,hq⟩:=h.eval y
   split at hg
   ·rename_i c d hy
    rw [hy] at hq ⊢
    split at hg
    ·rename_i hn
     rw [hn]
     exact ⟨trivial,.dead,.fz (hq.gd_inv.1 hg)⟩
    ·rename_i p hp
     rw [hp]
     exact ⟨hg.2,.dead,.fz (hq.gd_inv.1 hg.1)⟩
   ·rename_i hn
    refine ⟨hg,q,?_⟩
    generalize evalD fr y=d at hq hn ⊢
    cases d with
    |gd c d=>exact absurd rfl (hn c d)
    |_=>exact hq
  rcases List.mem_cons.1 hx with rfl|hx
  ·exact key.2
  ·exact gds_rep h xs key.1 x hx
theorem refOk_gd {fr:List D} {c:Bool} {d:D}:RefOk fr (.gd c d):=fun t ht=>by cases ht
theorem loadG_sound (hT:TOk P T Z) {S:Sig} {a:Act} {fr:List D} {ty0 u off:Nat} {x:Operand} {c:Bool} {dst:Option Nat} {ty:TypeId} {pos:String} {after:Array Edge} {guard:Option (Nat × Bool)} (h:FR S w a fr) (hev:c=true→a.eval x=.pointer (some ⟨S.loc (u+2),off,none⟩)) (hs:loadG T ty0 u off c dst fr K):
  (c=true→StepOk P S w a (Oper.mk dst (.load ty0 x) ty pos after guard) K)∧(c=false→∃ fr',K fr'∧FR S w (a.put dst undef) fr'):=by
 have skip:∀ {d:D},putD fr dst (.gd c d) K→c=false→∃ fr',K fr'∧FR S w (a.put dst undef) fr':=fun hp hc=>by
  subst hc
  exact putD_sound h (.fz (.gd (fun e=>by cases e) (fun _=>rfl))) refOk_gd hp
 unfold loadG at hs
 split at hs
 ·rename_i cs hd
  obtain ⟨cv,hcv⟩:=h.loadObj hd
  split at hs
  ·rename_i n fl ks ht
   haveI:=(hT.ty _ _ ht).1
   split at hs
   ·rename_i hb
    simp only [Bool.and_eq_true] at hb
    have hle:=Nat.le_of_ble_eq_true hb.1
    refine ⟨fun hc K' Q hK => ?_,fun hc=>skip hs hc⟩
    have hcell:∀ j,j < n→∃ d,((cs.drop off).take n)[j]?=some d∧w.cell? ⟨S.loc (u+2),off+j,none⟩=some (cv (off+j))∧(cv (off+j)).oneCell'=true∧Fz S.lim w (cv (off+j)) d:=fun j hj=>by
     have hjl:off+j < cs.length:=by omega
     have hg:((cs.drop off).take n)[j]?=some cs[off+j]:=by rw [List.getElem?_take,if_pos hj,List.getElem?_drop,List.getElem?_eq_getElem hjl]
     obtain ⟨h1,h2,h3⟩:=hcv _ _ (List.getElem?_eq_getElem hjl)
     exact ⟨_,hg,h1,h2,D.one_fz h3 (List.all_eq_true.1 hb.2 _ (gMem hg))⟩
    have hfz:Fz S.lim w (.agg ((List.range n).map fun j=>cv (off+j)).toArray) (.agg ((cs.drop off).take n)):=by
     refine .agg _ (by simp;omega) (fun v hv => ?_) fun j d v hj hv => ?_
     ·obtain ⟨j,hj,rfl⟩:=List.mem_map.1 hv
      obtain ⟨d,_,_,h2,_⟩:=hcell j (List.mem_range.1 hj)
      exact h2
     ·have hjn:j < n:=by have:=(gLt hv);simpa using this
      rw [List.getElem?_map,List.getElem?_range hjn] at hv
      cases hv
      obtain ⟨d',h1,_,_,h4⟩:=hcell j hjn
      rw [hj] at h1
      cases h1
      exact h4
    obtain ⟨fr',k1,k2⟩:=putD_sound (dst:=dst) h (.fz (.gd (fun _=>hfz) (fun e=>by rw [hc] at e;cases e))) refOk_gd hs
    refine r_loadN (cs:=(List.range n).map fun j=>cv (off+j)) (hev hc) (fun j v hv => ?_) (by simp) (hK fr' S w _ k1 (Trans.refl S w) k2)
    have hjn:j < n:=by have:=(gLt hv);simpa using this
    rw [List.getElem?_map,List.getElem?_range hjn] at hv
    cases hv
    obtain ⟨d',_,h2,_⟩:=hcell j hjn
    exact h2
   ·exact hs.elim
  ·rename_i i hi ht
   haveI:=(hT.ty _ _ ht).one (fun n fl ks e=>hi n fl ks e)
   split at hs
   ·rename_i sz0 rows0 hd'
    refine ⟨fun hc K' Q hK => ?_,fun hc=>skip hs hc⟩
    obtain ⟨y,hy,_,hrep,_⟩:=h.nameC hd hd'
    have hfz:Fz S.lim w y (.sl 0 sz0 rows0):=(Rep.le (.own sz0 rows0) hrep).passes rfl
    obtain ⟨fr',k1,k2⟩:=putD_sound (dst:=dst) h (.fz (.gd (fun _=>hfz) (fun e=>by rw [hc] at e;cases e))) refOk_gd hs
    exact r_load1 (hev hc) hy (hK fr' S w _ k1 (Trans.refl S w) k2)
   ·rename_i d _ hd'
    split at hs
    ·rename_i ho
     refine ⟨fun hc K' Q hK => ?_,fun hc=>skip hs hc⟩
     obtain ⟨h1,h2,h3⟩:=hcv _ _ hd'
     have hfz:=D.one_fz h3 ho
     obtain ⟨fr',k1,k2⟩:=putD_sound (dst:=dst) h (.fz (.gd (fun _=>hfz) (fun e=>by rw [hc] at e;cases e))) refOk_gd hs
     exact r_load1 (hev hc) h1 (hK fr' S w _ k1 (Trans.refl S w) k2)
    ·exact hs.elim
   ·exact hs.elim
  ·exact hs.elim
 ·exact hs.elim
theorem newG_frz {S:Sig} {a:Act} {fr:List D} {t sz:Nat} {d0:D} {v:Value} {rows:List (List D)} (h:FR S w a fr) (hd:fr[t]?=some d0) (hn:d0.isObj=false) (hr:Rep S w (dstPlace (some t)) v (.sl 2 sz rows)):
  ∃ S',Trans S w S' w∧FR S' w a ((fr.map (unal t .any)).set t .any)∧Fz S'.lim w v (.sl 0 sz rows):=by
 rcases hr.sl_inv with ⟨rfl,rfl⟩|⟨b,cap,cur,e,rfl,g⟩
 ·exact ⟨S,Trans.refl S w,h.forget hd hn,.slNil 0 sz⟩
 ·have hb:BT S w (S.set b none) w b:=BT.ghost h.wf g.own (by simp [dstPlace,Place.slot]) (fun y hy=>by cases hy)
  have hf:Fz (S.set b none).lim w (.slice (some ⟨b,0,none⟩) rows.length cap) (.sl 0 sz rows):=g.fz2 (fun h=>h.trans hb.tr) rfl (fun k _ s hs=>by simp [Sig.lim,S.set_at] at hs)
  exact ⟨_,hb.tr,h.rebuild hb g.own rfl hd hn (fun v' p hv'=>.fz (.any _)) (fun t ht=>by cases ht) (fun v' hv'=>.fz (.any _)) (fun t ht=>by cases ht),hf⟩
theorem gstep_sound (hT:TOk P T Z) {S:Sig} {a:Act} {fr:List D} {o:Oper} {c:Bool} (h:FR S w a fr) (hs:gstepD P T Z o c fr K):
  (c=true→StepOk P S w a o K)∧(c=false→∃ fr',K fr'∧FR S w (a.put o.dst undef) fr'):=by
 obtain ⟨dst,op,ty,pos,after,guard⟩:=o
 have skip:∀ {d:D},putD fr dst (.gd c d) K→c=false→∃ fr',K fr'∧FR S w (a.put dst undef) fr':=fun hp hc=>by
  subst hc
  exact putD_sound h (.fz (.gd (fun e=>by cases e) (fun _=>rfl))) refOk_gd hp
 have rest:∀ {xs:List Operand},xs=op.operands.toList→(opD P T Z (fun x=>strip (evalD fr x)) op fun s d=>andO (under c (gds (evalD fr) xs) s) (match d.passes with|true=>putD fr dst (.gd c d) K|false=>newG dst c d fr K))→
   (c=true→StepOk P S w a ⟨dst,op,ty,pos,after,guard⟩ K)∧(c=false→∃ fr',K fr'∧FR S w (a.put dst undef) fr'):=by
  intro xs hxs hs
  subst hxs
  obtain ⟨s,d,h1,h3⟩:=opD_sound (dst:=dst) (ty:=ty) (pos:=pos) (after:=after) (guard:=guard) hT hs
  obtain ⟨hu,h2⟩:=andO_iff.1 h1
  clear h1
  split at h2
  ·rename_i hp
   refine ⟨fun hc => ?_,fun hc=>skip h2 hc⟩
   obtain ⟨hg,hs'⟩:=under_holds hu hc
   intro K' Q hK
   refine h3 hs' S w a (dstPlace dst) h.wf (fun x hx=>gds_rep h _ hg x hx) K' Q fun v S' w' hpt hr hm => ?_
   obtain ⟨fr',k1,k2⟩:=putD_sound (v:=v) (h.drop hpt) (.fz (.gd (fun _=>hr.passes hp) (fun e=>by rw [hc] at e;cases e))) refOk_gd h2
   exact hK fr' S' w' _ k1 hpt.trans k2
  ·unfold newG at h2
   split at h2
   ·rename_i sz rows t _ _
    split at h2
    ·rename_i d0 hd0
     split at h2
     ·rename_i hob
      rw [forceL_eq] at h2
      refine ⟨fun hc => ?_,fun hc => ?_⟩
      ·obtain ⟨hg,hs'⟩:=under_holds hu hc
       intro K' Q hK
       refine h3 hs' S w a (dstPlace (some t)) h.wf (fun x hx=>gds_rep h _ hg x hx) K' Q fun v S' w' hpt hr hm => ?_
       obtain ⟨S2,t2,f2,z2⟩:=newG_frz (h.drop hpt) hd0 hob hr
       obtain ⟨fr',k1,k2⟩:=putD_sound (dst:=some t) (v:=v) f2 (.fz (.gd (fun _=>z2) (fun e=>by rw [hc] at e;cases e))) refOk_gd h2
       exact hK fr' S2 w' _ k1 (hpt.trans.trans t2) k2
      ·subst hc
       exact putD_sound (dst:=some t) (h.forget hd0 hob) (.fz (.gd (fun e=>by cases e) (fun _=>rfl))) refOk_gd h2
     ·exact h2.elim
    ·exact h2.elim
   ·exact h2.elim
 have tmp_ev:∀ {t:Nat} {v:Value},a.tmps[t]?=some v→a.eval (.tmp t)=v:=fun hv=>by simp [Act.eval,Array.getD_eq_getD_getElem?,hv]
 unfold gstepD at hs
 simp only at hs
 split at hs
 ·rename_i cc x y
  obtain ⟨s,r,hp,h12⟩:=pickD_inv hs
  obtain ⟨h1,h2⟩:=andO_iff.1 h12
  refine ⟨fun hc => ?_,fun hc=>skip h2 hc⟩
  obtain ⟨hg,hs'⟩:=under_holds h1 hc
  obtain ⟨p,h3,h4⟩:=pickR_sound (gds_rep h [cc] hg cc (by simp)) (h.eval _) (h.eval _) hp hs'
  intro K' Q hK
  refine pick_run h3 ?_
  rw [h4]
  obtain ⟨fr',k1,k2⟩:=putD_sound (v:=.bool r) h (.fz (.gd (fun _=>.bool r) (fun e=>by rw [hc] at e;cases e))) refOk_gd h2
  exact hK fr' S w _ k1 (Trans.refl S w) k2
 ·rename_i u
  split at hs
  ·rename_i ds hd
   obtain ⟨_,_,r3⟩:=ref_rep h hd 0
   have hown:S.own (S.loc (u+2))=some (.slot u,0):=by
    obtain ⟨v0,hv0,hs0⟩:=h.at hd
    obtain ⟨b,cur,e,_,hb,hloc,_⟩:=hs0.1.obj_inv
    rw [hloc]
    exact hb
   have hro:RefOk fr (.gref c u 0):=fun t ht=>by cases ht;exact ⟨ds,hd⟩
   refine ⟨fun hc K' Q hK => ?_,fun hc => ?_⟩
   ·obtain ⟨fr',k1,k2⟩:=putD_sound (dst:=dst) (v:=.pointer (some ⟨S.loc (u+2),0,none⟩)) h (.gref hown (by rw [if_pos hc])) hro hs
    exact r_move (tmp_ev r3) (hK fr' S w _ k1 (Trans.refl S w) k2)
   ·exact putD_sound h (.gref hown (by rw [if_neg (by rw [hc];decide)])) hro hs
  ·exact rest rfl hs
 ·rename_i u
  split at hs
  ·rename_i c' x off hd
   obtain ⟨hcc,hs⟩:=hs
   obtain ⟨v,hv,hsl⟩:=h.at hd
   have hro:RefOk fr (.gref c x off):=fun t ht=>hsl.2 t (by cases ht;constructor)
   cases hsl.1 with
   |fz h=>cases h
   |gref hown hv2=>
    refine ⟨fun hc K' Q hK => ?_,fun hc => ?_⟩
    ·rw [if_pos (hcc hc)] at hv2
     obtain ⟨fr',k1,k2⟩:=putD_sound (dst:=dst) (v:=.pointer (some ⟨S.loc (x+2),off,none⟩)) h (.gref hown (by rw [if_pos hc])) hro hs
     exact r_nilCheck ((tmp_ev hv).trans hv2) (hK fr' S w _ k1 (Trans.refl S w) k2)
    ·exact putD_sound h (.gref hown (by rw [if_neg (by rw [hc];decide)])) hro hs
  ·exact rest rfl hs
 ·rename_i ty0 u i
  split at hs
  ·rename_i ds hd
   split at hs
   ·rename_i ht
    split at hs
    ·rename_i off n ag hfl
     haveI:=(hT.ty _ _ ht).2.1 _ _ _ _ hfl
     obtain ⟨r1,r2,_⟩:=ref_rep h hd off
     obtain ⟨_,_,r3⟩:=ref_rep h hd 0
     have hown:S.own (S.loc (u+2))=some (.slot u,0):=by
      obtain ⟨v0,hv0,hs0⟩:=h.at hd
      obtain ⟨b,cur,e,_,hb,hloc,_⟩:=hs0.1.obj_inv
      rw [hloc]
      exact hb
     have hro:RefOk fr (.gref c u off):=fun t ht=>by cases ht;exact ⟨ds,hd⟩
     refine ⟨fun hc K' Q hK => ?_,fun hc => ?_⟩
     ·obtain ⟨fr',k1,k2⟩:=putD_sound (dst:=dst) (v:=.pointer (some ⟨S.loc (u+2),off,none⟩)) h (.gref hown (by rw [if_pos hc])) hro hs
      refine r_fieldAddr (tmp_ev r3) (by rw [Nat.zero_add];exact hK fr' S w _ k1 (Trans.refl S w) k2)
     ·exact putD_sound h (.gref hown (by rw [if_neg (by rw [hc];decide)])) hro hs
    ·exact hs.elim
   ·exact hs.elim
  ·rename_i c' x off0 hd
   split at hs
   ·rename_i ht
    split at hs
    ·rename_i off n ag hfl
     haveI:=(hT.ty _ _ ht).2.1 _ _ _ _ hfl
     obtain ⟨hcc,hs⟩:=hs
     obtain ⟨v,hv,hsl⟩:=h.at hd
     have hro:RefOk fr (.gref c x (off0+off)):=fun t ht=>hsl.2 t (by cases ht;constructor)
     cases hsl.1 with
     |fz h=>cases h
     |gref hown hv2=>
      refine ⟨fun hc K' Q hK => ?_,fun hc => ?_⟩
      ·rw [if_pos (hcc hc)] at hv2
       obtain ⟨fr',k1,k2⟩:=putD_sound (dst:=dst) (v:=.pointer (some ⟨S.loc (x+2),off0+off,none⟩)) h (.gref hown (by rw [if_pos hc])) hro hs
       exact r_fieldAddr ((tmp_ev hv).trans hv2) (hK fr' S w _ k1 (Trans.refl S w) k2)
      ·exact putD_sound h (.gref hown (by rw [if_neg (by rw [hc];decide)])) hro hs
    ·exact hs.elim
   ·exact hs.elim
  ·exact rest rfl hs
 ·rename_i ty0 x
  split at hs
  ·rename_i c' u off hd
   obtain ⟨hcc,hs⟩:=hs
   obtain ⟨v,hv,hsl⟩:=h.at hd
   refine loadG_sound hT h (fun hc => ?_) hs
   rw [tmp_ev hv]
   cases hsl.1 with
   |fz h=>cases h
   |gref g hv=>rw [hv,if_pos (hcc hc)]
  ·rename_i ds hd
   obtain ⟨_,_,r3⟩:=ref_rep h hd 0
   exact loadG_sound hT h (fun _=>tmp_ev r3) hs
  ·exact rest rfl hs
 ·exact rest rfl hs
theorem prepG_sound {S:Sig} {a:Act} {fr:List D} (h:FR S w a fr) (o:Oper):∃ S',Trans S w S' w∧FR S' w a (prepG o fr):=by
 have key:∀ u off,∃ S',Trans S w S' w∧FR S' w a (downC1 u off fr):=fun u off=>by
  unfold downC1
  split
  ·rename_i hd
   split
   ·rename_i hc;exact h.downC hd hc
   ·exact ⟨S,Trans.refl S w,h⟩
  ·exact ⟨S,Trans.refl S w,h⟩
 unfold prepG
 split
 ·split
  ·exact key _ _
  ·exact key _ _
  ·exact ⟨S,Trans.refl S w,h⟩
 ·exact ⟨S,Trans.refl S w,h⟩
theorem vcOps_sound (hT:TOk P T Z) {l:List Oper} {Q:Exit→Act→World→Prop} {K:List D→Prop}:∀ (r:List Oper) {S:Sig} {w:World} {a:Act} {fr:List D},FR S w a fr→vcOps P T Z M l r fr K→
  (∀ fr' S' w' a',K fr'→Trans S w S' w'→FR S' w' a' fr'→Q .normal a' w')→wpList P l.toArray Q r a w
 |[],S,w,a,fr,h,hs,hK=>wpList_nil (hK fr S w a hs (Trans.refl S w) h)
 |[o],S,w,a,fr,h,hs,hK=>by
  simp only [vcOps] at hs
  split at hs
  ·rename_i hg
   refine wpList_plain hg fun K' hK'=>stepN_sound hT h hs K' Q fun fr' S' w' a' k t f=>hK' _ _ (wpList_nil (hK fr' S' w' a' k t f))
  ·rename_i j want hg
   split at hs
   ·rename_i c hc
    have hw:=wanted_cond h hg hc
    split at hs
    ·unfold wpList
     rw [hw]
     cases c with
     |true=>
      rw [if_pos rfl]
      exact .inl (stepN_sound hT h (hs.t rfl) _ Q fun fr' S' w' a' k t f=>wpList_nil (hK fr' S' w' a' k t f))
     |false=>
      rw [if_neg (by simp)]
      obtain ⟨fr',k,f⟩:=putD_sound h (.fz (.gd (fun e=>by cases e) (fun _=>rfl))) refOk_gd (hs.f rfl)
      exact wpList_nil (hK fr' S w _ k (Trans.refl S w) f)
    ·rw [forceL_eq] at hs
     obtain ⟨S1,t1,h1⟩:=prepG_sound h o
     obtain ⟨g1,g0⟩:=gstep_sound hT h1 hs
     unfold wpList
     rw [hw]
     cases c with
     |true=>
      rw [if_pos rfl]
      exact .inl (g1 rfl _ Q fun fr' S' w' a' k t f=>wpList_nil (hK fr' S' w' a' k (t1.trans t) f))
     |false=>
      rw [if_neg (by simp)]
      obtain ⟨fr',k,f⟩:=g0 rfl
      exact wpList_nil (hK fr' S1 w _ k t1 f)
   ·exact hs.elim
 |o::o2::r,S,w,a,fr,h,hs,hK=>by
  simp only [vcOps] at hs
  split at hs
  ·rename_i hg
   split at hs
   ·rename_i ty hfa
    have hop:o.op=.alloc ty:=by
     unfold isFrzAlloc at hfa
     split at hfa
     ·rename_i ty' hop
      split at hfa
      ·split at hfa
       ·cases hfa
       ·cases hfa;exact hop
      ·cases hfa
     ·cases hfa
    exact pairD_sound hT h hop hs hg fun fr' S' w' a' k t f=>vcOps_sound hT r f k fun fr'' S'' w'' a'' k2 t2 f2=>hK fr'' S'' w'' a'' k2 (t.trans t2) f2
   ·split at hs
    ·exact boxB_sound hT h hs hg fun fr' S' w' a' k t f=>vcOps_sound hT r f k fun fr'' S'' w'' a'' k2 t2 f2=>hK fr'' S'' w'' a'' k2 (t.trans t2) f2
    refine wpList_plain hg fun K' hK'=>stepN_sound hT h hs K' Q fun fr' S' w' a' k t f=>hK' _ _ ?_
    exact vcOps_sound hT (o2::r) f k fun fr'' S'' w'' a'' k2 t2 f2=>hK fr'' S'' w'' a'' k2 (t.trans t2) f2
  ·rename_i j want hg
   split at hs
   ·rename_i c hc
    have hw:=wanted_cond h hg hc
    split at hs
    ·unfold wpList
     rw [hw]
     cases c with
     |true=>
      rw [if_pos rfl]
      exact .inl (stepN_sound hT h (hs.t rfl) _ Q fun fr' S' w' a' k t f=>vcOps_sound hT (o2::r) f k fun fr'' S'' w'' a'' k2 t2 f2=>hK fr'' S'' w'' a'' k2 (t.trans t2) f2)
     |false=>
      rw [if_neg (by simp)]
      obtain ⟨fr',k,f⟩:=putD_sound h (.fz (.gd (fun e=>by cases e) (fun _=>rfl))) refOk_gd (hs.f rfl)
      exact vcOps_sound hT (o2::r) f k fun fr'' S'' w'' a'' k2 t2 f2=>hK fr'' S'' w'' a'' k2 t2 f2
    ·rw [forceL_eq] at hs
     obtain ⟨S1,t1,h1⟩:=prepG_sound h o
     obtain ⟨g1,g0⟩:=gstep_sound hT h1 hs
     unfold wpList
     rw [hw]
     cases c with
     |true=>
      rw [if_pos rfl]
      exact .inl (g1 rfl _ Q fun fr' S' w' a' k t f=>vcOps_sound hT (o2::r) f k fun fr'' S'' w'' a'' k2 t2 f2=>hK fr'' S'' w'' a'' k2 ((t1.trans t).trans t2) f2)
     |false=>
      rw [if_neg (by simp)]
      obtain ⟨fr',k,f⟩:=g0 rfl
      exact vcOps_sound hT (o2::r) f k fun fr'' S'' w'' a'' k2 t2 f2=>hK fr'' S'' w'' a'' k2 (t1.trans t2) f2
   ·exact hs.elim
end
end Go.Proofs.YtindehjiaknokaaGreatDoor
namespace Go.Proofs.YtindehjiaknokaaGreatDoor
set_option linter.unusedSimpArgs false
set_option linter.unusedVariables false
open Go.RowKit
variable {Q1 Q2:Exit→Act→World→Prop} {done:Array Bool} {l:List Oper} {ss:List Spec} {w:World}
section
variable (P:Program) (ops:Array Oper) (Q:Exit→Act→World→Prop)
def StepG (R:World→World→Prop) (o:Oper) (s:Spec) (a:Act) (w:World):Prop:=
 if Region.wanted o (yielded ops a.tmps)=true then
  ∀ K:Act→World→Prop,(∀ u w',s.fact u w'→R w w'→K (a.put o.dst (s.shape u)) w')→o.wp P a w K (NoPanic Q)∨(o.asks P a w∧LetsOut (NoPanic Q))
 else ∃ u,s.shape u=undef∧s.fact u w
structure Ways where
 R:World→World→Prop
 c:Nat
 late:Nat→Bool
 base:∀ w w',Ext w w'→R w w'
 trans:∀ a b c,R a b→R b c→R a c
def Ways.sees (W:Ways) (i:Nat):World→World→Prop:=if i=W.c then Ext else W.R
def Ways.does (W:Ways) (i:Nat):World→World→Prop:=if i=W.c then W.R else Ext
theorem Ways.self (W:Ways) (i:Nat) (w:World):W.does i w w:=by
 unfold Ways.does
 split
 ·exact W.base _ _ (Ext.refl w)
 ·exact Ext.refl w
def ParW (W:Ways) (w0:World):Nat→List Oper→List Spec→List (World→Prop)→Act→Prop
 |_,[],_,fs,a=>∀ w,W.R w0 w→(∀ f ∈ fs,f w)→Q .normal a w
 |_,_::_,[],_,_=>False
 |i,o::r,s::ss,fs,a=>
  (∀ w,W.sees i w0 w→(∀ e ∈ o.after.toList,Region.binds .any e=true→(fs.getD e.on (fun _=>True)) w)→StepG P ops Q (W.does i) o s a w)∧
  (W.late i=false→∀ u w w',W.R w w'→s.fact u w→s.fact u w')∧
  ∀ u,ParW W w0 (i+1) r ss (fs ++ [s.fact u]) (a.put o.dst (s.shape u))
end
def headOk (l:Array Oper) (m:Nat):Bool:=(List.range l.size).all fun i=>decide (i < m) || (List.range m).all fun j=>reachB l l.size i j
def headDone (m n:Nat):Array Bool:=((List.range n).map fun j=>decide (j < m)).toArray
section
variable {P:Program} {Q:Exit→Act→World→Prop}
def tailA (P:Program) (l:List Oper) (m:Nat) (Q:Exit→Act→World→Prop):Exit→Act→World→Prop
 |.normal,a,w=>∀ fuel,l.length≤fuel+m→wpAny P .any l.toArray (NoPanic Q) fuel (headDone m l.length) a w
 |e,a,w=>Q e a w
theorem stepG_tailA {R:World→World→Prop} {ops:Array Oper} {m:Nat} {o:Oper} {s:Spec} {a:Act} (h:StepG P ops (tailA P l m Q) R o s a w):StepG P ops Q R o s a w:=by
 have hp:∀ c a w,NoPanic (tailA P l m Q) (.panic c) a w→NoPanic Q (.panic c) a w:=fun _ _ _ h=>h
 have ho:LetsOut (NoPanic (tailA P l m Q))→LetsOut (NoPanic Q):=fun ⟨a,w,h⟩=>⟨a,w,h⟩
 unfold StepG at *
 split
 ·rename_i hw
  rw [if_pos hw] at h
  intro K hK
  rcases h K hK with h1|h1
  ·exact .inl (wp_otherQ hp ho h1)
  ·exact .inr ⟨h1.1,ho h1.2⟩
 ·rename_i hw
  rw [if_neg hw] at h
  exact h
theorem parw_at {ops:Array Oper} {W:Ways} {w0:World} {env:Nat→Unk}:∀ (l:List Oper) (ss:List Spec) (fs:List (World→Prop)) (k:Nat) (a:Act),ParW P ops Q W w0 k l ss fs a→fs.length=k→
  ∀ (i:Nat) (o:Oper),l[i]?=some o→∃ s,ss[i]?=some s∧∃ gs:List (World→Prop),gs.length=i∧(∀ j (sj:Spec),j < i→ss[j]?=some sj→gs[j]?=some (sj.fact (env (k+j))))∧
   (∀ w,W.sees (k+i) w0 w→(∀ e ∈ o.after.toList,Region.binds .any e=true→((fs++gs).getD e.on (fun _=>True)) w)→StepG P ops Q (W.does (k+i)) o s (fillD env (fun j=>decide (j < k+i)) l ss k a) w)∧(W.late (k+i)=false→∀ u w w',W.R w w'→s.fact u w→s.fact u w')
 |[],_,_,_,_,_,_,_,_,h=>by simp at h
 |_::_,[],_,_,_,h,_,_,_,_=>h.elim
 |o'::r,s'::ss,fs,k,a,h,hk,0,o,ho=>by
  simp only [List.getElem?_cons_zero,Option.some.injEq] at ho
  subst ho
  refine ⟨s',rfl,[],rfl,fun j _ hj=>by omega,fun w hw hf => ?_,h.2.1⟩
  have hnone:∀ (l:List Oper) (ss:List Spec) (m:Nat) (a:Act),k≤m→fillD env (fun j=>decide (j < k+0)) l ss m a=a:=by
   intro l
   induction l with
   |nil=>intro ss m a _;simp [fillD]
   |cons o r ih=>intro ss m a hm;cases ss with
    |nil=>simp [fillD]
    |cons s ss=>simp only [fillD];rw [if_neg (by simp;omega)];exact ih ss (m+1) a (by omega)
  rw [hnone _ _ _ _ (Nat.le_refl _)]
  exact h.1 w hw (by simpa using hf)
 |o'::r,s'::ss,fs,k,a,h,hk,i+1,o,ho=>by
  obtain ⟨s,hs,gs,hl,hg,hstep,hmono⟩:=parw_at r ss (fs ++ [s'.fact (env k)]) (k+1) _ (h.2.2 (env k)) (by simp [hk]) i o (by simpa using ho)
  refine ⟨s,by simpa using hs,s'.fact (env k)::gs,by simp [hl],fun j sj hj hsj => ?_,fun w hw hf => ?_,?_⟩
  ·cases j with
   |zero=>simp at hsj;subst hsj;rfl
   |succ j=>have:=hg j sj (by omega) (by simpa using hsj);simpa [Nat.add_assoc,Nat.add_comm 1 j] using this
  ·have e:k+1+i=k+(i+1):=by omega
   rw [e] at hstep
   have:=hstep w hw (by simpa using hf)
   simp only [fillD]
   rw [if_pos (by simp)]
   exact this
  ·have e:k+1+i=k+(i+1):=by omega
   rwa [e] at hmono
theorem parw_end {ops:Array Oper} {W:Ways} {w0:World} {env:Nat→Unk}:∀ (l:List Oper) (ss:List Spec) (fs:List (World→Prop)) (k:Nat) (a:Act),ParW P ops Q W w0 k l ss fs a→
  ∀ w,W.R w0 w→(∀ f ∈ fs,f w)→(∀ j (s:Spec),j < l.length→ss[j]?=some s→s.fact (env (k+j)) w)→Q .normal (fillD env (fun _=>true) l ss k a) w
 |[],_,_,_,_,h,w,hw,hf,_=>by simpa [fillD] using h w hw hf
 |_::_,[],_,_,_,h,_,_,_,_=>h.elim
 |o::r,s::ss,fs,k,a,h,w,hw,hf,hs=>by
  simp only [fillD,if_true]
  refine parw_end r ss _ (k+1) _ (h.2.2 (env k)) w hw (fun f hm => ?_) (fun j s' hj hs' => ?_)
  ·rcases List.mem_append.1 hm with hm|hm
   ·exact hf f hm
   ·simp only [List.mem_singleton] at hm;subst hm;simpa using hs 0 s (by simp) rfl
  ·have:=hs (j+1) s' (by simpa using hj) (by simpa using hs')
   simpa [Nat.add_assoc,Nat.add_comm 1 j] using this
theorem wp_region_waysA {id:Nat} (m:Nat) (W:Ways) {a:Act} (hm:P.follows .mixedOrders=true) (hok:parOk l.toArray=true) (htl:headOk l.toArray m=true) (hml:m≤l.length) (hlate:∀ i,W.late i=true→i ≠ W.c→reachB l.toArray l.toArray.size i W.c=true)
  (hin:(l.all fun o=>match o.dst with|some d=>decide (d < a.tmps.size)|none=>true)=true) 
  (h:ParW P l.toArray (tailA P l m Q) W w 0 (l.take m) ss [] a):(Code.region id l.toArray true).wp P Q a w:=by
 refine wp_region_noPanic (wp_region_any hm ?_)
 have hops:∀ i:Nat,l.toArray[i]?=l[i]?:=fun i=>by simp
 obtain ⟨L,hL⟩:∃ L,L=l.take m:=⟨_,rfl⟩
 rw [← hL] at h
 have hLl:L.length=m:=by rw [hL,List.length_take];omega
 have hLi:∀ i o,L[i]?=some o→l[i]?=some o∧i < m:=fun i o ho=>by
  have hi:i < L.length:=(gLt ho)
  rw [hL,List.getElem?_take] at ho
  split at ho
  ·exact ⟨ho,by omega⟩
  ·cases ho
 have hLo:∀ i o,i < m→l[i]?=some o→L[i]?=some o:=fun i o hi ho=>by rw [hL,List.getElem?_take,if_pos hi];exact ho
 have hlen:∀ (i:Nat) (o:Oper),L[i]?=some o→∃ s,ss[i]?=some s:=fun i o ho=>by
  obtain ⟨s,hs,_⟩:=parw_at (env:=fun _=>default) L ss [] 0 a h rfl i o ho
  exact ⟨s,hs⟩
 have inb:∀ (i:Nat) (o:Oper),l[i]?=some o→∀ d,o.dst=some d→d < a.tmps.size:=fun i o ho d hd=>by
  have:=List.all_eq_true.1 hin o (gMem ho)
  simpa [hd] using this
 have key:∀ (fuel:Nat) (listed:Array Bool) (b:Act) (w1:World) (env:Nat→Unk),listed.size=l.length→l.length≤fuel+listed.toList.countP (fun x=>x)→((listed.getD W.c false=false→Ext w w1)∧W.R w w1)→
   b=fillD env (fun j=>listed.getD j false) L ss 0 a→(∀ j (s:Spec),listed.getD j false=true→ss[j]?=some s→s.fact (env j) w1)→
   (∀ j o,l[j]?=some o→listed.getD j false=true→∀ e ∈ o.after,Region.binds .any e=true→listed.getD e.on false=true)→(∀ j,m≤j→listed.getD j false=false)→
   wpAny P .any l.toArray (NoPanic Q) fuel listed b w1:=by
  intro fuel
  have finish:∀ (listed:Array Bool) (b:Act) (w1:World) (env:Nat→Unk),(∀ j,j < m→listed.getD j false=true)→W.R w w1→
    b=fillD env (fun j=>listed.getD j false) L ss 0 a→(∀ j (s:Spec),listed.getD j false=true→ss[j]?=some s→s.fact (env j) w1)→tailA P l m Q .normal b w1:=by
   intro listed b w1 env hall hw hb hf
   have e:fillD env (fun j=>listed.getD j false) L ss 0 a=fillD env (fun _=>true) L ss 0 a:=by
    refine act_ext (by rw [fillD_defers,fillD_defers]) fun t=>fillD_agree L ss 0 a a rfl rfl fun j o ho _ => ?_
    simp only [Nat.zero_add]
    exact hall j (hLi j o ho).2
   rw [hb,e]
   exact parw_end (Q:=tailA P l m Q) (env:=env) L ss [] 0 a h w1 hw (by simp) (fun j s hj hs=>by
    simp only [Nat.zero_add]
    exact hf j s (hall j (by omega)) hs)
  have fin:∀ (listed:Array Bool) (b:Act) (w1:World) (env:Nat→Unk),(∀ j,j < l.length→listed.getD j false=true)→(∀ j,m≤j→listed.getD j false=false)→W.R w w1→
    b=fillD env (fun j=>listed.getD j false) L ss 0 a→(∀ j (s:Spec),listed.getD j false=true→ss[j]?=some s→s.fact (env j) w1)→NoPanic Q .normal b w1:=by
   intro listed b w1 env hall hnt hw hb hf
   have hlm:l.length≤m:=by
    rcases Nat.lt_or_ge m l.length with h1|h1
    ·have h2:=hall m h1
     rw [hnt m (Nat.le_refl _)] at h2
     cases h2
    ·exact h1
   exact (finish listed b w1 env (fun j hj=>hall j (by omega)) hw hb hf 0 (by omega)).2
  have allOf:∀ listed:Array Bool,listed.size=l.length→Region.ready .any l.toArray listed = []→∀ j,j < l.length→listed.getD j false=true:=by
   intro listed hsz hr j
   induction j using Nat.strongRecOn with
   |_ j ih=>
    intro hj
    cases hb:listed.getD j false with
    |true=>rfl
    |false=>
     exfalso
     have hm:j ∈ Region.ready .any l.toArray listed:=by
      rw [mem_ready]
      refine ⟨?_,l[j],by simp [hj],fun e he hbd=>ih e.on (parOk_before hok (by simp [hj]) he hbd) ?_⟩
      ·have hjs:j < listed.size:=by omega
       simp [hjs] at hb ⊢
       exact hb
      ·have:=parOk_before hok (i:=j) (o:=l[j]) (by simp [hj]) he hbd
       omega
     rw [hr] at hm
     cases hm
  induction fuel with
  |zero=>
   intro listed b w1 env hsz hfu hw hb hf hcl hnt
   have hall:∀ j,j < l.length→listed.getD j false=true:=by
    intro j hj
    have hc:listed.toList.countP (fun x=>x)=listed.toList.length:=by
     have:=List.countP_le_length (p:=fun x=>x) (l:=listed.toList)
     simp only [Array.length_toList] at *
     omega
    have:=List.countP_eq_length.1 hc
    have hjs:j < listed.size:=by omega
    simp [hjs]
    exact this _ (by simp)
   refine ⟨?_,fin listed b w1 env hall hnt hw.2 hb hf⟩
   rw [List.eq_nil_iff_forall_not_mem]
   intro j hj
   obtain ⟨h0,o,ho,_⟩:=mem_ready.1 hj
   have hjl:j < l.length:=by have:=(Array.getElem?_eq_some_iff.1 ho).1;simpa using this
   have h1:=hall j hjl
   have hjs:j < listed.size:=by omega
   simp [hjs] at h0 h1
   rw [h0] at h1
   cases h1
  |succ fuel ih=>
   intro listed b w1 env hsz hfu hw hb hf hcl hnt
   refine ⟨fun hr=>fin listed b w1 env (allOf listed hsz hr) hnt hw.2 hb hf,fun i hi => ?_⟩
   obtain ⟨h0,o,ho',hall⟩:=mem_ready.1 hi
   have ho:l[i]?=some o:=by rw [← hops];exact ho'
   have hil:i < l.length:=(gLt ho)
   have his:i < listed.size:=by omega
   have hun:listed.getD i false=false:=by
    simp [his] at h0 ⊢
    exact h0
   rcases Nat.lt_or_ge i m with him|him
   case inr=>
    have hpre:∀ j,j < m→listed.getD j false=true:=by
     intro j hj
     have h1:=List.all_eq_true.1 htl i (by simpa using hil)
     simp only [Bool.or_eq_true,decide_eq_true_eq,List.all_eq_true,List.mem_range] at h1
     rcases h1 with h1|h1
     ·omega
     ·exact reach_listed (l:=l.toArray) (fun j o ho=>hcl j o (by rw [← hops];exact ho)) _ i o j ho' hall (h1 j hj)
    have hw3:=finish listed b w1 env hpre hw.2 hb hf
    have hall':∀ j,listed.getD j false=decide (j < m):=fun j=>by
     by_cases hj:j < m
     ·rw [hpre j hj];simp [hj]
     ·rw [hnt j (by omega)];simp [hj]
    have hcnt:listed.toList.countP (fun x=>x)=m:=count_lt listed m (by omega) hall'
    have hld:listed=headDone m l.length:=by
     apply Array.ext
     ·rw [hsz];simp [headDone]
     ·intro j h1 h2
      have h3:=hall' j
      simp [h1] at h3
      rw [h3]
      simp [headDone]
    have h4:=hw3 (fuel+1) (by omega)
    rw [← hld] at h4
    exact h4.2 i hi
   have hoL:=hLo i o him ho
   obtain ⟨s,hs,gs,hgl,hg,hstep,_⟩:=parw_at (env:=env) L ss [] 0 a h rfl i o hoL
   have hb4:∀ e ∈ o.after,Region.binds .any e=true→e.on < i:=fun e he hbd=>parOk_before hok ho' he hbd
   have hst:=hstep w1 (by
    simp only [Nat.zero_add,Ways.sees]
    split
    ·rename_i hic;exact hw.1 (hic ▸ hun)
    ·exact hw.2) (fun e he hbd=>by
    have he':e ∈ o.after:=by simpa using he
    have hlt:=hb4 e he' hbd
    obtain ⟨sj,hsj⟩:=hlen e.on (L[e.on]'(by omega)) (by simp)
    have hge:=hg e.on sj hlt hsj
    simp only [List.nil_append,List.getD_eq_getElem?_getD,hge,Option.getD_some,Nat.zero_add]
    exact hf e.on sj (hall e he' hbd) hsj)
   simp only [Nat.zero_add] at hst
   -- the canonical frame and the frame at hand agree on what the operation looks at
   have hag:∀ t ∈ o.looksAt l.toArray,b.tmps[t]?=(fillD env (fun j=>decide (j < i)) L ss 0 a).tmps[t]?:=by
    intro t ht
    rw [hb]
    refine fillD_agree L ss 0 a a rfl rfl fun j p hpL hpt => ?_
    have hp:=(hLi j p hpL).1
    simp only [Nat.zero_add]
    by_cases hji:j=i
    ·subst hji;rw [hun];simp
    ·have hpair:=(parOk_pair hok ho' (by rw [hops];exact hp) hji hpt).2 ht
     rcases hpair with hd|hd
     ·obtain ⟨e,he,hbd,hej⟩:=depOn_spec hd
      rw [← hej,hall e he hbd]
      simp [hb4 e he hbd]
     ·obtain ⟨e,he,hbd,hej⟩:=depOn_spec hd
      have hij:i < j:=by rw [← hej];exact parOk_before hok (by rw [hops];exact hp) he hbd
      have:listed.getD j false=false:=by
       cases hlj:listed.getD j false with
       |false=>rfl
       |true=>have:=hcl j p hp hlj e he hbd;rw [hej,hun] at this;cases this
      rw [this]
      simp;omega
   have hev:∀ x ∈ o.op.operands,b.eval x=(fillD env (fun j=>decide (j < i)) L ss 0 a).eval x:=by
    intro x hx
    cases x with
    |tmp t=>
     have:=hag t (List.mem_append_left _ (List.mem_filterMap.2 ⟨.tmp t,by simpa using hx,rfl⟩))
     simp [Act.eval,this]
    |_=>rfl
   have hexe:execOp b.eval o=execOp (fillD env (fun j=>decide (j < i)) L ss 0 a).eval o:=
    execOp_congr o (fun cs bb=>Region.noSelect_spec (parOk_noSelect hok) i o cs bb ho') hev
   have hwan:Region.wanted o (yielded l.toArray b.tmps)=Region.wanted o (yielded l.toArray (fillD env (fun j=>decide (j < i)) L ss 0 a).tmps):=by
    unfold Region.wanted
    cases hgd:o.guard with
    |none=>rfl
    |some gw=>
     obtain ⟨g,want⟩:=gw
     simp only
     congr 1
     unfold yielded
     cases ht:(l.toArray[g]?).bind (·.dst) with
     |none=>rfl
     |some t=>
      have e2:=hag t (List.mem_append_right _ (by simp only [hgd];rw [ht];simp))
      simp only [Option.bind_some]
      rw [e2]
   -- what follows behind the operation
   have next:∀ u w2,s.fact u w2→W.does i w1 w2→wpAny P .any l.toArray (NoPanic Q) fuel (listed.setIfInBounds i true) (b.put o.dst (s.shape u)) w2:=by
    intro u w2 hfu2 hx
    let env':Nat→Unk:=fun j=>if j=i then u else env j
    have hset:∀ j,(listed.setIfInBounds i true).getD j false=(decide (j=i) || listed.getD j false):=by
     intro j
     by_cases hji:j=i
     ·subst hji;simp [his]
     ·rw [getD_set_ne false (Ne.symm hji)];simp [hji]
    have henv:∀ (l:List Oper) (ss:List Spec) (k:Nat) (a:Act),fillD env (fun j=>listed.getD j false) l ss k a=fillD env' (fun j=>listed.getD j false) l ss k a:=by
     intro l
     induction l with
     |nil=>intro ss k a;simp [fillD]
     |cons o r ihl=>intro ss k a;cases ss with
      |nil=>simp [fillD]
      |cons s ss=>
       simp only [fillD]
       by_cases hki:k=i
       ·subst hki
        rw [if_neg (by rw [hun];simp),if_neg (by rw [hun];simp)]
        exact ihl _ _ _
       ·have:env' k=env k:=if_neg hki
        rw [this]
        exact ihl _ _ _
    refine ih _ _ w2 env' (by simpa using hsz) ?_ ⟨fun hc => ?_,?_⟩ ?_ (fun j s' hj hs' => ?_) (fun j p hp hj e he hbd => ?_) (fun j hj=>by rw [hset,hnt j hj];simp;omega)
    ·have hc:(listed.setIfInBounds i true).toList.countP (fun x=>x)=listed.toList.countP (fun x=>x)+1:=by
      have hi':i < listed.toList.length:=by simpa using his
      simp only [Array.toList_setIfInBounds]
      rw [List.countP_set (h:=hi')]
      have:listed.toList[i]=false:=by
       have:=hun
       simp [his] at this
       simpa using this
      rw [this]
      simp
     rw [hc]
     omega
    ·rw [hset] at hc
     have hci:i ≠ W.c:=fun e=>by subst e;simp at hc
     simp only [Ways.does,if_neg hci] at hx
     exact (hw.1 (by simpa [Ne.symm hci] using hc)).trans hx
    ·refine W.trans _ _ _ hw.2 ?_
     simp only [Ways.does] at hx
     split at hx
     ·exact hx
     ·exact W.base _ _ hx
    ·rw [hb,henv]
     refine act_ext (by rw [put_defers,fillD_defers,fillD_defers]) fun t => ?_
     by_cases hdt:o.dst=some t
     ·rw [hdt,put_eq,fillD_size]
      rw [fillD_at (env:=env') L ss 0 a i o s hoL hs hdt (by rw [Nat.zero_add,hset];simp) (fun j p hpL hji=>by
       have hp:=(hLi j p hpL).1
       intro hpd
       have h2:=(parOk_pair hok ho' (by rw [hops];exact hp) hji hpd).1
       exact h2 hdt)]
      simp only [Nat.zero_add]
      have:env' i=u:=if_pos rfl
      rw [this]
     ·rw [put_ne _ _ _ _ hdt]
      refine fillD_agree L ss 0 a a rfl rfl fun j p hpL hpt => ?_
      have hp:=(hLi j p hpL).1
      rw [Nat.zero_add,hset]
      by_cases hji:j=i
      ·subst hji;rw [ho] at hp;cases hp;exact absurd hpt hdt
      ·simp [hji]
    ·rw [hset] at hj
     by_cases hji:j=i
     ·subst hji
      rw [hs] at hs'
      cases hs'
      have:env' j=u:=if_pos rfl
      rw [this]
      exact hfu2
     ·have:env' j=env j:=if_neg hji
      rw [this]
      have hj0:listed.getD j false=true:=by simpa [hji] using hj
      have hold:=hf j s' hj0 hs'
      simp only [Ways.does] at hx
      split at hx
      ·rename_i hic
       have hjl:j < l.length:=by
        rcases Nat.lt_or_ge j l.length with h1|h1
        ·exact h1
        ·have:¬ j < listed.size:=by omega
         simp [this] at hj0
       have hjm:j < m:=by
        rcases Nat.lt_or_ge j m with h1|h1
        ·exact h1
        ·rw [hnt j h1] at hj0;cases hj0
       obtain ⟨s2,hs2,_,_,_,_,hmono⟩:=parw_at (env:=env) L ss [] 0 a h rfl j l[j] (hLo j _ hjm (by simp))
       rw [hs'] at hs2
       cases hs2
       rw [Nat.zero_add] at hmono
       refine hmono ?_ _ _ _ hx hold
       cases hlj:W.late j with
       |false=>rfl
       |true=>
        exfalso
        have hjc:j ≠ W.c:=fun e=>hji (e.trans hic.symm)
        have:=reach_listed (l:=l.toArray) (fun j o ho=>hcl j o (by rw [← hops];exact ho)) _ j l[j] W.c (by simp [hjl]) (hcl j l[j] (by simp [hjl]) hj0) (hlate j hlj hjc)
        rw [← hic,hun] at this
        cases this
      ·exact s'.mono _ _ _ hx hold
    ·rw [hset] at hj ⊢
     by_cases hji:j=i
     ·subst hji
      rw [ho] at hp
      cases hp
      rw [hall e he hbd]
      simp
     ·rw [hcl j p hp (by simpa [hji] using hj) e he hbd]
      simp
   -- the step
   unfold wpOp
   simp only [ho']
   replace hst:=stepG_tailA hst
   unfold StepG at hst
   rw [hwan]
   split
   ·rename_i hw'
    rw [if_pos hw'] at hst
    rcases hst (fun a' w'=>∃ v,a'=(fillD env (fun j=>decide (j < i)) L ss 0 a).put o.dst v∧∃ u,v=s.shape u∧s.fact u w'∧W.does i w1 w') (fun u w' h1 h2=>⟨_,rfl,u,rfl,h1,h2⟩) with hs1|hs1
    ·refine .inl (Oper.wp_mono (fun a' w' hh => ?_) (wp_frame hexe (fun d hd=>by rw [fillD_size];exact inb i o ho d hd) hs1))
     obtain ⟨v,rfl,u,rfl,h1,h2⟩:=hh
     exact next u w' h1 h2
    ·refine .inr ⟨?_,hs1.2⟩
     have:=hs1.1
     unfold Oper.asks at this ⊢
     rw [hexe]
     exact this
   ·rename_i hw'
    rw [if_neg hw'] at hst
    obtain ⟨u,hu,h1⟩:=hst
    rw [← hu]
    exact next u w1 h1 (W.self i w1)
 refine key l.toArray.size _ a _ (fun _=>default) (by simp) (by simp) ⟨fun _=>Ext.drew w,W.base _ _ (Ext.drew w)⟩ ?_ (fun j s hj => ?_) (fun j o _ hj => ?_) (fun j _ => ?_)
 ·have hnone:∀ (m:List Oper) (ss:List Spec) (k:Nat) (a:Act),fillD (fun _=>default) (fun j=>(Array.replicate l.toArray.size false).getD j false) m ss k a=a:=by
   intro m
   induction m with
   |nil=>intro ss k a;simp [fillD]
   |cons o r ih=>intro ss k a;cases ss with
    |nil=>simp [fillD]
    |cons s ss=>
     simp only [fillD]
     rw [if_neg (by simp [Array.getElem?_replicate];split<;>simp)]
     exact ih ss (k+1) a
  exact (hnone L ss 0 a).symm
 ·exfalso
  simp [Array.getElem?_replicate] at hj
  split at hj<;>simp at hj
 ·exfalso
  simp [Array.getElem?_replicate] at hj
  split at hj<;>simp at hj
 ·simp [Array.getElem?_replicate]
  split<;>simp
theorem ParW.mono {Q1 Q2:Exit→Act→World→Prop} {ops:Array Oper} {W:Ways} {w0:World} (hn:∀ a w,Q1 .normal a w→Q2 .normal a w) (hs:∀ R o s a w,StepG P ops Q1 R o s a w→StepG P ops Q2 R o s a w):
  ∀ (l:List Oper) (ss:List Spec) (fs:List (World→Prop)) (k:Nat) (a:Act),ParW P ops Q1 W w0 k l ss fs a→ParW P ops Q2 W w0 k l ss fs a
 |[],_,_,_,_,h=>fun w h1 h2=>hn _ w (h w h1 h2)
 |_::_,[],_,_,_,h=>h.elim
 |_::r,_::ss,_,_,_,h=>⟨fun w h1 h2=>hs _ _ _ _ _ (h.1 w h1 h2),h.2.1,fun u=>ParW.mono hn hs r ss _ _ _ (h.2.2 u)⟩
theorem stepG_same (hp:∀ c a w,NoPanic Q1 (.panic c) a w→NoPanic Q2 (.panic c) a w) (ho:LetsOut (NoPanic Q1)→LetsOut (NoPanic Q2)) {ops:Array Oper} (R:World→World→Prop) (o:Oper) (s:Spec) (a:Act) (w:World) (h:StepG P ops Q1 R o s a w):StepG P ops Q2 R o s a w:=by
 unfold StepG at *
 split
 ·rename_i hw
  rw [if_pos hw] at h
  intro K hK
  rcases h K hK with h1|h1
  ·exact .inl (wp_otherQ hp ho h1)
  ·exact .inr ⟨h1.1,ho h1.2⟩
 ·rename_i hw
  rw [if_neg hw] at h
  exact h
theorem head_of_tail {l:Array Oper} {m:Nat} (h:tailOk l m=true):headOk l m=true:=by
 unfold headOk
 rw [List.all_eq_true]
 intro i hi
 have h1:=List.all_eq_true.1 h i hi
 simp only [Bool.or_eq_true,decide_eq_true_eq,List.all_eq_true,List.mem_range] at h1 ⊢
 rcases h1 with h1|h1
 ·exact .inl h1
 ·rcases Nat.lt_or_ge i m with h2|h2
  ·exact .inl h2
  ·exact .inr fun j hj=>h1 j (by omega)
theorem tailA_of {m:Nat} (hok:parOk l.toArray=true) (htl:tailOk l.toArray m=true) (hml:m≤l.length) (a:Act) (w:World) (h:tailQ P l m Q .normal a w):tailA P l m Q .normal a w:=fun fuel hf=>
 any_of_list hok htl m fuel (headDone m l.length) a w (Nat.le_refl _) hml (by simp [headDone]) (fun j=>by
  by_cases hj:j < l.length
  ·simp [headDone,hj]
  ·simp [headDone,hj];omega) hf h
theorem wp_region_ways {id:Nat} (m:Nat) (W:Ways) {a:Act} (hm:P.follows .mixedOrders=true) (hok:parOk l.toArray=true) (htl:tailOk l.toArray m=true) (hml:m≤l.length) (hlate:∀ i,W.late i=true→i ≠ W.c→reachB l.toArray l.toArray.size i W.c=true)
  (hin:(l.all fun o=>match o.dst with|some d=>decide (d < a.tmps.size)|none=>true)=true) 
  (h:ParW P l.toArray (tailQ P l m Q) W w 0 (l.take m) ss [] a):(Code.region id l.toArray true).wp P Q a w:=by  refine wp_region_waysA m W hm hok (head_of_tail htl) hml hlate hin (ParW.mono (tailA_of hok htl hml) (fun R o s a w=>stepG_same (fun _ _ _ h=>h) (fun ⟨a,w,h⟩=>⟨a,w,h⟩) R o s a w) _ _ _ _ _ h)
def Ways.none:Ways:=⟨Ext,0,fun _=>false,fun _ _ h=>h,fun _ _ _ h k=>h.trans k⟩
theorem parW_of {ops:Array Oper} {w0:World}:∀ (l:List Oper) (ss:List Spec) (fs:List (World→Prop)) (k:Nat) (a:Act),ParSteps P ops Q w0 l ss fs a→ParW P ops Q Ways.none w0 k l ss fs a
 |[],_,_,_,_,h=>h
 |_::_,[],_,_,_,h=>h.elim
 |o::r,s::ss,fs,k,a,h=>by
  have e1:Ways.none.sees k=Ext:=by unfold Ways.sees;split<;>rfl
  have e2:Ways.none.does k=Ext:=by unfold Ways.does;split<;>rfl
  refine ⟨fun w hw hf => ?_,fun _ u w w' hw hf=>s.mono u w w' hw hf,fun u=>parW_of r ss _ _ _ (h.2 u)⟩
  rw [e2]
  exact h.1 w (by rw [e1] at hw;exact hw) hf
theorem wp_region_par {id:Nat} {a:Act} (hm:P.follows .mixedOrders=true) (hok:parOk l.toArray=true)
  (hin:(l.all fun o=>match o.dst with|some d=>decide (d < a.tmps.size)|none=>true)=true) 
  (h:ParSteps P l.toArray Q w l ss [] a):(Code.region id l.toArray true).wp P Q a w:=by
 have hall:∀ i ∈ List.range l.toArray.size,i < l.length:=fun i hi=>by simpa using hi
 refine wp_region_waysA (ss:=ss) l.length Ways.none hm hok ?_ (Nat.le_refl _) (fun _ h=>by cases h) hin ?_
 ·unfold headOk
  rw [List.all_eq_true]
  intro i hi
  simp [hall i hi]
 ·rw [List.take_of_length_le (Nat.le_refl _)]
  refine ParW.mono (Q1:=Q) (Q2:=tailA P l l.length Q) (fun a w h fuel _ => ?_) (fun R o s a w=>stepG_same (fun _ _ _ h=>h) (fun ⟨a,w,h⟩=>⟨a,w,h⟩) R o s a w) _ _ _ _ _ (parW_of _ _ _ 0 _ h)
  have hr:Region.ready .any l.toArray (headDone l.length l.length) = []:=by
   rw [List.eq_nil_iff_forall_not_mem]
   intro j hj
   obtain ⟨h0,o,ho,_⟩:=mem_ready.1 hj
   have hjl:j < l.length:=by have:=(Array.getElem?_eq_some_iff.1 ho).1;simpa using this
   simp [headDone,hjl] at h0
  cases fuel with
  |zero=>exact ⟨hr,h⟩
  |succ n=>exact ⟨fun _=>h,fun i hi=>by rw [hr] at hi;cases hi⟩
theorem any_step {ops:Array Oper} {fuel:Nat} {a:Act} (is:List Nat) (hr:Region.ready .any ops done=is) (hne:is ≠ []) (h:∀ i ∈ is,wpOp P ops Q i (wpAny P .any ops Q fuel (done.setIfInBounds i true)) a w):wpAny P .any ops Q (fuel+1) done a w:=
 ⟨fun e=>absurd (hr.symm.trans e) hne,fun i hi=>h i (hr ▸ hi)⟩
theorem any_end {ops:Array Oper} {fuel:Nat} {a:Act} (hr:Region.ready .any ops done = []) (h:Q .normal a w):wpAny P .any ops Q fuel done a w:=by
 cases fuel with
 |zero=>exact ⟨hr,h⟩
 |succ n=>exact ⟨fun _=>h,fun i hi=>by rw [hr] at hi;cases hi⟩
theorem wpOp_one {ops:Array Oper} {i:Nat} {o:Oper} {K:Act→World→Prop} {a:Act} (ho:ops[i]?=some o) (hg:o.guard=none) (h:o.wp P a w K Q):wpOp P ops Q i K a w:=by
 unfold wpOp
 simp only [ho]
 rw [if_pos (by unfold Region.wanted;rw [hg])]
 exact .inl h
end
end Go.Proofs.YtindehjiaknokaaGreatDoor
namespace Go.Proofs.YtindehjiaknokaaGreatDoor
set_option linter.unusedSimpArgs false
set_option linter.unusedVariables false
open Go.RowKit
variable {w:World}
def frz1d:D→D
 |.sl _ sz rows=>.sl 0 sz rows
 |.mp _ _=>.any
 |d=>d
def D.frz:D→D
 |.sl _ sz rows=>.sl 0 sz rows
 |.mp _ _=>.any
 |.agg cs=>.agg (cs.map frz1d)
 | .tup ds=>.tup (ds.map fun d=>match d with
  |.agg cs=>.agg (cs.map frz1d)
  | d=>frz1d d)
 |d=>d
def frzQ (d:D):D:=match d.passes with
 |true=>d
 |false=>d.frz
def okQ (d:D):Bool:=match d.passes with
 |true=>true
 |false=>match d with
  |.tup ds=>ds.all fun d=>match d with
   |.agg cs=>cs.all D.calm1
   |d=>d.calm1
  |.agg cs=>cs.all D.calm1
  |.sl _ _ _=>true
  |_=>false
def evalQ (fr0 fr:List D):Operand→D
 |.tmp t=>match fr[t]? with
  |some (.al u)=>(fr0[u]?).getD .any
  |some (.obj cs)=>match fr0[t]? with
   |some (.obj _)=>.obj cs
   |_=>.any
  |some (.alc _ _)=>.any
  |some (.el _ _ _ _ _)=>.any
  |some (.nsl _ _ _)=>.any
  |some (.nagg _ _ _ _ _)=>.any
  |some d=>d
  |none=>.any
 |x=>evalD [] x
def opG (P:Program) (T:Nat→Option TI) (Z:Nat→Option (List Value)) (fr0 fr:List D) (c:Bool) (op:Op) (K:D→Prop):Prop:=
 opD P T Z (fun x=>strip (evalQ fr0 fr x)) op fun s d=>andO (under c (gds (evalQ fr0 fr) op.operands.toList) s) (match d.passes with
  |true=>force (.gd c d) K
  | false=>False)
def stepQ (P:Program) (T:Nat→Option TI) (Z:Nat→Option (List Value)) (all:List Oper) (cs:Nat) (fr0 fr:List D) (o:Oper) (K:D→Prop):Prop:=
 match o.guard with
 |none=>match o.op with
  |.move (.tmp u)=>match Nat.beq u cs with
   |true=>match fr0[u]? with
    |some _=>K (.al u)
    |none=>False
   |false=>match fr[u]? with
    |some (.sl (_+1) _ _)=>match fr0[u]? with
     |some (.sl (_+1) _ _)=>K (.al u)
     |_=>False
    |some (.al u')=>match Nat.beq u' cs with
     |true=>match fr0[u']? with
      |some _=>K (.al u')
      |none=>False
     |false=>match fr0[u']? with
      |some (.sl (_+1) _ _)=>K (.al u')
      |_=>False
    |some (.obj _)=>match fr0[u]? with
     |some (.obj _)=>K (.ref u 0)
     |_=>False
    |some (.ref x off)=>match fr0[x]? with
     |some (.obj _)=>K (.ref x off)
     |_=>False
    | _=>opD P T Z (evalQ fr0 fr) o.op fun s d=>andO s (match okQ d with
     |true=>force (frzQ d) K
     | false=>False)
  |.pick c x y=>pickD (evalQ fr0 fr c) x y (evalQ fr0 fr) fun s d=>andO s (force d K)
  |.alloc ty=>match Z ty with
   |some zc=>match zc.all Value.oneCell' with
    |true=>force (.obj (zeroD zc)) K
    |false=>False
   |none=>False
  |.fieldAddr ty (.tmp u) i=>match fr0[u]? with
   |some (.obj _)=>match T ty with
    |some (.st _ fl _)=>match fl[i]? with
     |some (off,_+1,_)=>K (.ref u off)
     |_=>False
    |_=>False
   |_=>match fr[u]? with
    |some (.ref x off0)=>match fr0[x]? with
     |some (.obj _)=>match T ty with
      |some (.st _ fl _)=>match fl[i]? with
       |some (off,_+1,_)=>K (.ref x (off0+off))
       |_=>False
      |_=>False
     |_=>False
    |some (.el x c0 sz k j)=>match T ty with
     |some (.st _ fl _)=>match fl[i]? with
      |some (off,_+1,_)=>match fr0[x]? with
       |some (.obj _)=>K (.el x c0 sz k (j+off))
       |_=>False
      |_=>False
     |_=>False
    | _=>opD P T Z (evalQ fr0 fr) o.op fun s d=>andO s (match okQ d with
    |true=>force (frzQ d) K
    | false=>False)
  |.nilCheck (.tmp u)=>match fr[u]? with
   |some (.ref x off)=>match fr0[x]? with
    |some (.obj _)=>K (.ref x off)
    |_=>False
   | _=>opD P T Z (evalQ fr0 fr) o.op fun s d=>andO s (match okQ d with
    |true=>force (frzQ d) K
    | false=>False)
  |.load ty (.tmp u)=>match fr[u]? with
   |some (.ref x off)=>match fr0[x]? with
    |some (.obj ds)=>match ds[off]? with
     |some (.sl 2 _ _)=>match T ty with
      |some (.sl _ _ _ _)=>K (.alc x off)
      |_=>False
     |some (.sl 1 sz rows)=>match T ty with
      |some (.sl _ _ _ _)=>force (.sl 0 sz rows) K
      |_=>False
     |some d=>match d.one with
      |true=>match T ty with
       |some (.st _ _ _)=>False
       |some _=>force d K
       |none=>False
      |false=>False
     |none=>False
    |_=>False
   |some (.el x c sz k j)=>match fr0[x]? with
    |some (.obj ds)=>match ds[c]? with
     |some (.sl 2 sz' rows)=>match Nat.beq sz' sz with
      |true=>match T ty with
       |some (.st _ _ _)=>False
       | some _=>IdxE fun r=>SideD (0≤Int.ofNat k∧rows[(Int.ofNat k).toNat]?=some r) (match r[j]? with
        |some d=>match d.one with
         |true=>force d K
         |false=>False
        | none=>False)
       |none=>False
      |false=>False
     |_=>False
    |_=>False
   | _=>opD P T Z (evalQ fr0 fr) o.op fun s d=>andO s (match okQ d with
    |true=>force (frzQ d) K
    | false=>False)
  | _=>opD P T Z (evalQ fr0 fr) o.op fun s d=>andO s (match okQ d with
   |true=>force (frzQ d) K
   | false=>False)
 |some (j,want)=>match condOf all fr j want with
  |some c=>match o.op with
   |.pick cc x y=>pickD (strip (evalQ fr0 fr cc)) x y (evalQ fr0 fr) fun s d=>andO (under c (gds (evalQ fr0 fr) [cc]) s) (K (.gd c d))
   |.move (.tmp u)=>match fr0[u]? with
    |some (.obj _)=>K (.gref c u 0)
    |_=>opG P T Z fr0 fr c o.op K
   |.nilCheck (.tmp u)=>match fr[u]? with
    |some (.gref c' x off)=>match fr0[x]? with
     |some (.obj _)=>SideD (c=true→c'=true) (K (.gref c x off))
     |_=>False
    |_=>opG P T Z fr0 fr c o.op K
   |.fieldAddr ty (.tmp u) i=>match fr[u]? with
    |some (.gref c' x off0)=>match fr0[x]? with
     |some (.obj _)=>match T ty with
      |some (.st _ fl _)=>match fl[i]? with
       |some (off,_+1,_)=>SideD (c=true→c'=true) (K (.gref c x (off0+off)))
       |_=>False
      |_=>False
     |_=>False
    |_=>opG P T Z fr0 fr c o.op K
   |.load ty (.tmp u)=>match fr[u]? with
    |some (.gref c' x off)=>match fr0[x]? with
     |some (.obj ds)=>match ds[off]? with
      |some (.sl 1 sz rows)=>match T ty with
       |some (.sl _ _ _ _)=>SideD (c=true→c'=true) (force (.gd c (.sl 0 sz rows)) K)
       |_=>False
      |some d=>match d.one with
       |true=>match T ty with
        |some (.st _ _ _)=>False
        |some _=>SideD (c=true→c'=true) (force (.gd c d) K)
        |none=>False
       |false=>False
      |none=>False
     |_=>False
    |_=>opG P T Z fr0 fr c o.op K
   |_=>opG P T Z fr0 fr c o.op K
  |none=>False
def writeQ (P:Program) (cs:Nat) (d0:D) (fr0 fr:List D) (o:Oper) (K:D→Prop):Prop:=
 match o.guard with
 |some _=>False
 |none=>match o.op with
  |.call c=>match c.callee with
   |.value (.func f)=>match c.args.toList with
    |.tmp t::xs=>match Nat.beq t cs || (match fr[t]? with|some (.al u)=>Nat.beq u cs|_=>false) with
     |true=>match d0 with
      | .sl (m+1) sz rows=>CallO fun d out=>SideD (GivesO P f (.sl (m+1) sz rows) (xs.map (evalQ fr0 fr)) d out) (match okQ d with
       |true=>force (frzQ d) K
       | false=>False)
      |_=>False
     |false=>False
    |_=>False
   |_=>False
  |_=>False
def vcQ (P:Program) (T:Nat→Option TI) (Z:Nat→Option (List Value)) (all:List Oper) (k cs:Nat) (d0:D) (fr0:List D):Nat→List Oper→List D→(List D→Prop)→Prop
 |_,[],fr,K=>K fr
 |i,o::r,fr,K=>
  let K':=fun d=>match o.dst with
   |none=>vcQ P T Z all k cs d0 fr0 (i+1) r fr K
   |some t=>match fr[t]? with
    |some d1=>match d1.owns || Nat.beq t cs with
     |false=>forceL (fr.set t d) fun fr=>vcQ P T Z all k cs d0 fr0 (i+1) r fr K
     |true=>False
    |none=>False
  match Nat.beq i k with
  |false=>stepQ P T Z all cs fr0 fr o K'
  |true=>writeQ P cs d0 fr0 fr o K'
section
variable {P:Program} {T:Nat→Option TI} {Z:Nat→Option (List Value)}
theorem fresh_place (S:Sig) (w:World) (hw:WF S w):∃ p:Place,p.r ≠ 0∧p.path ≠ []∧∀ b x,S.own b=some x→¬ x.1.under p:=by
 have key:∀ n,∃ N,∀ b x,b < n→S.own b=some x→∀ y ∈ x.1.path,y < N:=by
  intro n
  induction n with
  |zero=>exact ⟨0,fun b x hb=>by omega⟩
  |succ n ih=>
   obtain ⟨N,hN⟩:=ih
   have hl:∀ l:List Nat,∃ M,∀ y ∈ l,y < M:=by
    intro l
    induction l with
    |nil=>exact ⟨0,fun y hy=>by cases hy⟩
    |cons x l ih=>
     obtain ⟨M,hM⟩:=ih
     exact ⟨max M (x+1),fun y hy=>by
      rcases List.mem_cons.1 hy with rfl|hy
      ·omega
      ·have:=hM y hy;omega⟩
   cases ho:S.own n with
   | none=>exact ⟨N,fun b x hb hx=>by
     by_cases hbn:b=n
     ·subst hbn;rw [ho] at hx;cases hx
     ·exact hN b x (by omega) hx⟩
   |some z=>
    obtain ⟨M,hM⟩:=hl z.1.path
    exact ⟨max N M,fun b x hb hx y hy=>by
     by_cases hbn:b=n
     ·subst hbn;rw [ho] at hx;cases hx;have:=hM y hy;omega
     ·have:=hN b x (by omega) hx y hy;omega⟩
 obtain ⟨N,hN⟩:=key w.heap.size
 refine ⟨⟨2,[N]⟩,by simp,by simp,fun b x hx hu => ?_⟩
 obtain ⟨_,l,hl⟩:=hu
 have:=hN b x (hw b x hx) hx N (by rw [hl];simp)
 omega
theorem Fz.frz1 {lim:Nat→Option Nat} {v:Value} {d:D} (h:Fz lim w v d):Fz lim w v (frz1d d):=by
 cases d with
 |sl m sz rows=>
  cases h with
  |slNil=>exact .slNil 0 sz
  |slE=>exact .slE _ sz
  |sl cv a1 a2 a3 a4 a5=>exact .sl cv a1 a2 a3 a4 a5
 |mp es=>exact .any _
 |_=>exact h
theorem unown {S S':Sig} {w':World} (hw:WF S w) (hp:PT S w S' w') {p:Place} (hf:∀ b x,S.own b=some x→¬ x.1.under p) {v:Value} {d:D} (hr:Rep S' w' p v d) (ho:okQ d=true):Fz S.lim w' v (frzQ d):=by
 have hlim:∀ {v:Value} {d:D},Fz S'.lim w' v d→Fz S.lim w' v d:=fun h=>h.monoL fun b s hs=>by
  by_cases hb:b < w.heap.size
  ·simp only [Sig.lim,hp.own b hb]
   exact hs
  ·exfalso
   simp only [Sig.lim] at hs
   cases hx:S.own b with
   |none=>rw [hx] at hs;cases hs
   |some x=>exact hb (hw b x hx)
 have one:∀ {q:Place} {v:Value} {d:D},q.under p→Rep S' w' q v d→d.calm1=true→Fz S.lim w' v (frz1d d):=by
  intro q v d hq hr hc
  cases hr with
  |fz h=>exact hlim h.frz1
  |@own _ b cap m sz rows cur e g=>
   have hb:¬ b < w.heap.size:=fun hb=>hf b _ ((hp.own b hb).symm.trans g.own) hq
   have hnone:S.own b=none:=by
    cases hx:S.own b with
    |none=>rfl
    |some x=>exact absurd (hw b x hx) hb
   exact g.fz2 hlim rfl fun k _ s hs=>by simp [Sig.lim,hnone] at hs
  |mp=>exact .any _
  |obj=>cases hc
  |ref=>cases hc
  |gref=>cases hc
  |fn=>cases hc
  |agg=>cases hc
  |tup=>cases hc
 have agg:∀ {q:Place} {v:Value} {cs:List D},q.under p→Rep S' w' q v (.agg cs)→cs.all D.calm1=true→Fz S.lim w' v (.agg (cs.map frz1d)):=by
  intro q v cs hq hr hc
  obtain ⟨vs,rfl,h1,h2,h3⟩:=hr.agg_inv
  refine .agg vs (by simp [h1]) h2 fun j d u hd hu => ?_
  rw [List.getElem?_map] at hd
  cases hcj:cs[j]? with
  |none=>rw [hcj] at hd;cases hd
  |some e=>
   rw [hcj] at hd
   cases hd
   exact one (Place.under_trans (Place.at_under _ j) hq) (h3 j e u hcj hu) (List.all_eq_true.1 hc e (gMem hcj))
 unfold frzQ
 split
 ·rename_i hpass
  exact hlim (hr.passes hpass)
 ·rename_i hpass
  unfold okQ at ho
  rw [hpass] at ho
  simp only at ho
  split at ho
  ·rename_i ds
   obtain ⟨vs,rfl,h1,h3⟩:=hr.tup_inv
   refine .tup vs (by simp [h1]) fun j d u hd hu => ?_
   rw [List.getElem?_map] at hd
   cases hcj:ds[j]? with
   |none=>rw [hcj] at hd;cases hd
   |some e=>
    rw [hcj] at hd
    cases hd
    have hc1:=List.all_eq_true.1 ho e (gMem hcj)
    have h4:=h3 j e u hcj hu
    have hu':=Place.at_under p j
    cases e with
    |agg cs=>exact agg hu' h4 hc1
    |_=>exact one hu' h4 hc1
  ·exact agg (Place.under_refl p) hr ho
  ·exact one (Place.under_refl p) hr rfl
  ·cases ho
def Sig.drop (S:Sig) (u:Nat):Sig:=⟨fun b=>match mine u (S.own b) with
 |true=>none
 | false=>S.own b,S.loc⟩
theorem drop_own {S:Sig} {u b:Nat} (h:mine u (S.own b)=false):(S.drop u).own b=S.own b:=by
 simp only [Sig.drop,h]
theorem drop_some {S:Sig} {u b:Nat} {x:Place × Nat} (h:(S.drop u).own b=some x):S.own b=some x∧mine u (S.own b)=false:=by
 simp only [Sig.drop] at h
 split at h
 ·cases h
 ·exact ⟨h,by assumption⟩
theorem drop_lim {S:Sig} {u:Nat} {v:Value} {d:D} (h:Fz S.lim w v d):Fz (S.drop u).lim w v d:=h.monoL fun b s hs=>by
 simp only [Sig.lim] at hs
 cases hx:(S.drop u).own b with
 |none=>rw [hx] at hs;cases hs
 |some x=>
  rw [hx] at hs
  simp only [Sig.lim]
  rw [(drop_some hx).1]
  exact hs
theorem drop_wf {S:Sig} {u:Nat} (h:WF S w):WF (S.drop u) w:=⟨fun b x hx=>h b x (drop_some hx).1,h.gl.sig fun b hb=>by
 cases hx:(S.drop u).own b with
 |none=>rfl
 | some x=>rw [(drop_some hx).1] at hb;cases hb⟩
theorem unhand {S S':Sig} {w':World} {u:Nat} (hw:WF S w) (ht:Trans (S.hand u) w S' w') {v:Value} {d:D} (hr:Rep S' w' .res v d) (ho:okQ d=true):Fz (S.drop u).lim w' v (frzQ d):=by
 have hold:∀ b x,(S.drop u).own b=some x→S'.own b=some (.dead,x.2):=fun b x hx=>by
  obtain ⟨h1,h2⟩:=drop_some hx
  have:=(hand_old ht (hw b x h1) h2).2
  rw [this,h1]
  rfl
 have hlim:∀ {v:Value} {d:D},Fz S'.lim w' v d→Fz (S.drop u).lim w' v d:=fun h=>h.monoL fun b s hs=>by
  simp only [Sig.lim] at hs
  cases hx:(S.drop u).own b with
  |none=>rw [hx] at hs;cases hs
  |some x=>
   rw [hx] at hs
   simp only [Sig.lim]
   rw [hold b x hx]
   exact hs
 have one:∀ {q:Place} {v:Value} {d:D},q.r=1→Rep S' w' q v d→d.calm1=true→Fz (S.drop u).lim w' v (frz1d d):=by
  intro q v d hq hr hc
  cases hr with
  |fz h=>exact hlim h.frz1
  |@own _ b cap m sz rows cur e g=>
   have hnone:(S.drop u).own b=none:=by
    cases hx:(S.drop u).own b with
    |none=>rfl
    |some x=>
     have h1:=hold b x hx
     rw [g.own] at h1
     have h2:=congrArg Prod.fst (Option.some.inj h1)
     simp only at h2
     rw [h2] at hq
     cases hq
   exact g.fz2 hlim rfl fun k _ s hs=>by simp [Sig.lim,hnone] at hs
  |mp=>exact .any _
  |obj=>cases hc
  |ref=>cases hc
  |gref=>cases hc
  |fn=>cases hc
  |agg=>cases hc
  |tup=>cases hc
 have agg:∀ {q:Place} {v:Value} {cs:List D},q.r=1→Rep S' w' q v (.agg cs)→cs.all D.calm1=true→Fz (S.drop u).lim w' v (.agg (cs.map frz1d)):=by
  intro q v cs hq hr hc
  obtain ⟨vs,rfl,h1,h2,h3⟩:=hr.agg_inv
  refine .agg vs (by simp [h1]) h2 fun j d u hd hu => ?_
  rw [List.getElem?_map] at hd
  cases hcj:cs[j]? with
  |none=>rw [hcj] at hd;cases hd
  |some e=>
   rw [hcj] at hd
   cases hd
   exact one (q:=q.at j) hq (h3 j e u hcj hu) (List.all_eq_true.1 hc e (gMem hcj))
 unfold frzQ
 split
 ·rename_i hpass
  exact hlim (hr.passes hpass)
 ·rename_i hpass
  unfold okQ at ho
  rw [hpass] at ho
  simp only at ho
  split at ho
  ·rename_i ds
   obtain ⟨vs,rfl,h1,h3⟩:=hr.tup_inv
   refine .tup vs (by simp [h1]) fun j d u hd hu => ?_
   rw [List.getElem?_map] at hd
   cases hcj:ds[j]? with
   |none=>rw [hcj] at hd;cases hd
   |some e=>
    rw [hcj] at hd
    cases hd
    have hc1:=List.all_eq_true.1 ho e (gMem hcj)
    have h4:=h3 j e u hcj hu
    cases e with
    |agg cs=>exact agg (q:=Place.res.at j) rfl h4 hc1
    |_=>exact one (q:=Place.res.at j) rfl h4 hc1
  ·exact agg rfl hr ho
  ·exact one rfl hr rfl
  ·cases ho
end
end Go.Proofs.YtindehjiaknokaaGreatDoor
namespace Go.Proofs.YtindehjiaknokaaGreatDoor
set_option linter.unusedSimpArgs false
set_option linter.unusedVariables false
open Go.RowKit
variable {Q:Exit→Act→World→Prop} {S S':Sig} {a a0:Act} {c cs n0 off u:Nat} {fs:List (World→Prop)} {l:List Oper} {o:Oper} {w w' w0:World}
def NewB (S:Sig) (n0:Nat) (cs:List D) (v:Value) (w:World):Prop:=∃ (b:Nat) (e:TypeId) (zc:List Value),v=.pointer (some ⟨b,0,none⟩)∧n0≤b∧S.own b=none∧w.heap[b]?=some (.cells zc.toArray e (0,0))∧cs=zeroD zc∧zc.all Value.oneCell'=true
def NewS (S:Sig) (n0 sz n:Nat) (z:List D) (v:Value) (w:World):Prop:=∃ (b cap:Nat) (cur:Array Value) (e:TypeId),v=.slice (some ⟨b,0,none⟩) n cap∧n0≤b∧S.own b=none∧w.heap[b]?=some (.cells cur e (0,0))∧1≤n∧n≤cap∧cap≤maxLen∧cur.size=cap * sz∧z.length=sz∧
 ∀ (k j:Nat) (d:D),k < n→z[j]?=some d→∃ u,cur[k * sz+j]?=some u∧u.oneCell'=true∧d.flat1=true∧Fz S.lim w u d
def NewA (S:Sig) (n0:Nat) (cs:List D) (off sz n:Nat) (z:List D) (v:Value) (w:World):Prop:=∃ (us:List Value) (u:Value),v=.agg us.toArray∧us.length=cs.length∧(∀ x:Value,x ∈ us→x.oneCell'=true)∧us[off]?=some u∧NewS S n0 sz n z u w∧
 ∀ (j:Nat) (d:D) (x:Value),j ≠ off→cs[j]?=some d→us[j]?=some x→d.one=true∧Fz S.lim w x d
theorem flat1_any {lim lim':Nat→Option Nat} {u:Value} {d:D} (h:d.flat1=true) (hf:Fz lim w u d):Fz lim' w' u d:=by
 cases d with
 |int k n=>cases hf;exact .int k n
 |bool b=>cases hf;exact .bool b
 |str s=>cases hf;exact .str s
 |_=>cases h
theorem NewS.keep {sz n:Nat} {z:List D} {v:Value} (hk:∀ b,b < w.heap.size→S.own b=none→w'.heap[b]?=w.heap[b]?) (h:NewS S n0 sz n z v w):NewS S n0 sz n z v w':=by
 obtain ⟨b,cap,cur,e,h1,h2,h3,h4,h5,h6,h7,h8,h9,h10⟩:=h
 refine ⟨b,cap,cur,e,h1,h2,h3,(hk b (Array.getElem?_eq_some_iff.1 h4).1 h3).trans h4,h5,h6,h7,h8,h9,fun k j d g1 g2 => ?_⟩
 obtain ⟨u,u1,u2,u3,u4⟩:=h10 k j d g1 g2
 exact ⟨u,u1,u2,u3,flat1_any u3 u4⟩
theorem NewA.keep {cs:List D} {sz n:Nat} {z:List D} {v:Value} (hk:∀ b,b < w.heap.size→S.own b=none→w'.heap[b]?=w.heap[b]?) (hf:∀ {x:Value} {d:D},Fz S.lim w x d→Fz S.lim w' x d) (h:NewA S n0 cs off sz n z v w):NewA S n0 cs off sz n z v w':=by
 obtain ⟨us,u,h1,h2,h3,h4,h5,h6⟩:=h
 exact ⟨us,u,h1,h2,h3,h4,h5.keep hk,fun j d x g1 g2 g3=>⟨(h6 j d x g1 g2 g3).1,hf (h6 j d x g1 g2 g3).2⟩⟩
def Fact (S:Sig) (n0:Nat) (a0:Act) (d:D) (v:Value) (w:World):Prop:=WF S w∧match d with
 |.al u=>v=a0.eval (.tmp u)
 |.ref u off=>v=.pointer (some ⟨S.loc (u+2),off,none⟩)
 |.gref c u off=>v=if c=true then .pointer (some ⟨S.loc (u+2),off,none⟩) else undef
 |.obj cs=>NewB S n0 cs v w
 |.alc u off=>w.cell? ⟨S.loc (u+2),off,none⟩=some v
 |.el u off sz k j=>∃ s,w.cell? ⟨S.loc (u+2),off,none⟩=some s∧ElAt s sz k j v
 |.nsl sz n z=>NewS S n0 sz n z v w
 |.nagg cs off sz n z=>NewA S n0 cs off sz n z v w
 |d=>Fz S.lim w v d
theorem NewB.mono {cs:List D} {v:Value} (hx:Ext w w') (h:NewB S n0 cs v w):NewB S n0 cs v w':=by
 obtain ⟨b,e,zc,h1,h2,h3,h4,h5⟩:=h
 have hb:b < w.heap.size:=(Array.getElem?_eq_some_iff.1 h4).1
 exact ⟨b,e,zc,h1,h2,h3,(hx.block hb).trans h4,h5⟩
theorem ext_cell {b o:Nat} {v:Value} (hx:Ext w w') (h:w.cell? ⟨b,o,none⟩=some v):w'.cell? ⟨b,o,none⟩=some v:=by
 rw [World.cell?_of_block (a:=⟨b,o,none⟩) (w:=w) (hx.block (cell_lt h))]
 exact h
theorem Fact.mono {d:D} {v:Value} (hx:Ext w w') (h:Fact S n0 a0 d v w):Fact S n0 a0 d v w':=by
 have hp:=PT.ext' h.1 hx
 refine ⟨hp.wf,?_⟩
 have h2:=h.2
 cases d with
 |al u=>exact h2
 |ref u off=>exact h2
 |gref c u off=>exact h2
 |obj cs=>exact NewB.mono hx h2
 |alc u off=>exact ext_cell hx h2
 |el u off sz k j=>
  obtain ⟨s,h3,h4⟩:=h2
  exact ⟨s,ext_cell hx h3,h4⟩
 |nsl sz n z=>exact NewS.keep (fun b hb _=>hx.block hb) h2
 |nagg cs off sz n z=>exact NewA.keep (fun b hb _=>hx.block hb) (fun h=>h.trans hp.trans) h2
 |_=>exact h2.trans hp.trans
def factSpec (S:Sig) (n0:Nat) (a0:Act) (d:D):Spec:=⟨fun u=>u.2.2,fun u w=>Fact S n0 a0 d u.2.2 w,fun _ _ _ hx h=>h.mono hx⟩
structure Rw (S:Sig) (u:Nat) (w w':World):Prop where
 os:w'.os=w.os
 tape:w'.tape=w.tape
 output:w'.output=w.output
 size:w.heap.size≤w'.heap.size
 same:∀ b,b < w.heap.size→mine u (S.own b)=false→w'.heap[b]?=w.heap[b]?
 held:∀ b p l,S.own b=some (p,l)→p.r=u+2→Keeps l w.heap[b]? w'.heap[b]?
theorem Rw.ext (h:Ext w w'):Rw S u w w':=by
 refine ⟨h.os,h.tape,h.output,h.sizeOf,fun b hb _=>h.block hb,fun b p l _ _ => ?_⟩
 by_cases hb:b < w.heap.size
 ·exact Keeps.of_eq (h.block hb)
 ·intro cur e fz hh
  rw [Array.getElem?_eq_none (by omega)] at hh
  cases hh
theorem Rw.comp {a b c:World} (h:Rw S u a b) (k:Rw S u b c):Rw S u a c:=
 ⟨k.os.trans h.os,k.tape.trans h.tape,k.output.trans h.output,Nat.le_trans h.size k.size,fun i hi hn=>(k.same i (Nat.lt_of_lt_of_le hi h.size) hn).trans (h.same i hi hn),fun i p l hl hr=>(h.held i p l hl hr).trans (k.held i p l hl hr) (Nat.le_refl _)⟩
theorem Rw.wf (h:Rw S u w w') (hw:WF S w):WF S w':=⟨fun b x hx=>Nat.lt_of_lt_of_le (hw b x hx) h.size,hw.gl.keep fun b hb hn=>⟨h.same b hb (by rw [hn];rfl),hn⟩⟩
theorem Rw.to (h:Rw S u w w') (hS:S'=S∨S'=S.drop u):Trans S w S' w':=by
 refine ⟨h.os,h.tape,h.output,h.size,fun b hb hn => ?_,fun b p l hb hs hd => ?_,fun b p l hb hs => ?_,by rcases hS with rfl|rfl<;>rfl⟩
 ·have hno:mine u (S.own b)=false:=by rw [hn];rfl
  refine ⟨h.same b hb hno,?_⟩
  rcases hS with rfl|rfl
  ·exact hn
  ·rw [drop_own hno,hn]
 ·have hno:mine u (S.own b)=false:=by rw [hs];simp [mine,hd]
  refine ⟨h.same b hb hno,?_⟩
  rcases hS with rfl|rfl
  ·exact hs
  ·rw [drop_own hno,hs]
 ·refine ⟨?_,fun x hx => ?_⟩
  ·by_cases hno:mine u (S.own b)=false
   ·exact Keeps.of_eq (h.same b hb hno)
   ·have hq:p.r=u+2:=by rw [hs] at hno;simpa [mine] using hno
    exact h.held b p l hs hq
  ·have:S.own b=some x:=by
    rcases hS with rfl|rfl
    ·exact hx
    ·exact (drop_some hx).1
   rw [hs] at this
   cases this
   exact Nat.le_refl _
theorem Rw.rep (h:Rw S u w w') (hw:WF S w) (hS:S'=S∨S'=S.drop u) {fr:List D} (hno:∀ cs,fr[u]? ≠ some (.obj cs)) {i:Nat} (hi:i ≠ u) {v:Value} {e:D} (hr:Rep S w (.slot i) v e) (hf:RefOk fr e):Rep S' w' (.slot i) v e:=by
 have old:∀ b q l,S.own b=some (q,l)→q.r ≠ u+2→w'.heap[b]?=w.heap[b]?∧S'.own b=some (q,l):=fun b q l hs hq=>by
  have hno:mine u (S.own b)=false:=by rw [hs];simp [mine,hq]
  refine ⟨h.same b (hw _ _ hs) hno,?_⟩
  rcases hS with rfl|rfl
  ·exact hs
  ·rw [drop_own hno,hs]
 have hloc:S'.loc=S.loc:=by rcases hS with rfl|rfl<;>rfl
 refine hr.trans hw (h.to hS) (by rw [hloc]) (fun b q l hs hu=>old b q l hs fun e => ?_) (fun _=>by rw [hloc]) fun t hm ho=>⟨by rw [hloc],(old _ _ _ ho fun e => ?_).2⟩
 ·have:=hu.1
  simp only [Place.slot] at this
  omega
 ·obtain ⟨cs,hc⟩:=hf t hm
  simp only [Place.slot] at e
  have:t=u:=by omega
  subst this
  exact hno cs hc
def lateOf (l:Array Oper) (c:Nat) (i:Nat):Bool:=decide (i=c) || reachB l l.size i c
def lateOk (l:Array Oper) (c:Nat):Bool:=(List.range l.size).all fun i=>match l[i]? with
 |some o=>o.after.all fun e => !Region.binds .any e || !lateOf l c e.on || (lateOf l c i && !decide (i=c))
 |none=>true
def ways (S:Sig) (l:Array Oper) (c u:Nat):Ways:=⟨Rw S u,c,lateOf l c,fun _ _ h=>Rw.ext h,fun _ _ _ h k=>h.comp k⟩
def sg (S:Sig) (l:Array Oper) (c u i:Nat):Sig:=if lateOf l c i=true then S.drop u else S
theorem late_dep {l:Array Oper} {i:Nat} (h:lateOk l c=true) (ho:l[i]?=some o) {e:Edge} (he:e ∈ o.after.toList) (hb:Region.binds .any e=true) (hl:lateOf l c e.on=true):lateOf l c i=true∧i ≠ c:=by
 have h1:=List.all_eq_true.1 h i (by simpa using (Array.getElem?_eq_some_iff.1 ho).1)
 simp only [ho] at h1
 have h2:=Array.all_eq_true'.1 h1 e (by simpa using he)
 simpa [hb,hl] using h2
def AlOk (fr0:List D) (cs u:Nat):Prop:=(u=cs∧∃ e,fr0[u]?=some e)∨∃ d',fr0[u]?=some d'∧d'.owns=true
def NmOk (fr0:List D) (cs:Nat):D→Prop
 |.al u=>AlOk fr0 cs u
 |.ref u _ | .gref _ u _ | .alc u _ | .el u _ _ _ _=>∃ c,fr0[u]?=some (.obj c)
 |_=>True
structure QInv (S:Sig) (l:Array Oper) (c cs n0:Nat) (a0:Act) (fr0:List D) (pre:List Oper) (fs:List (World→Prop)) (a:Act) (fr:List D):Prop where
 size:a.tmps.size=fr.length
 len:fr.length=fr0.length
 defers:a.defers = []
 fslen:fs.length=pre.length
 slot:∀ (t:Nat) (d:D),fr[t]?=some d→(a.tmps[t]?=a0.tmps[t]?∧fr0[t]?=some d)∨
  ∃ (k:Nat) (o:Oper) (v:Value),pre[k]?=some o∧o.dst=some t∧a.tmps[t]?=some v∧fs[k]?=some (Fact (sg S l c cs k) n0 a0 d v)∧NmOk fr0 cs d
 own:∀ (u:Nat) (d:D),fr0[u]?=some d→d.owns=true→fr[u]?=some d∧a.tmps[u]?=a0.tmps[u]?
 keep:a.tmps[cs]?=a0.tmps[cs]?
theorem QInv.slot' {l:Array Oper} {fr0:List D} {pre:List Oper} {fr:List D} (h:QInv S l c cs n0 a0 fr0 pre fs a fr) (t:Nat) (d:D) (hd:fr[t]?=some d):(a.tmps[t]?=a0.tmps[t]?∧fr0[t]?=some d)∨
  (∃ (k:Nat) (o:Oper) (v:Value),pre[k]?=some o∧o.dst=some t∧a.tmps[t]?=some v∧fs[k]?=some (Fact (sg S l c cs k) n0 a0 d v)∧NmOk fr0 cs d)∧∀ x,d=.obj x→∀ c',fr0[t]? ≠ some (.obj c'):=by
 rcases h.slot t d hd with h1|h1
 ·exact .inl h1
 ·by_cases hob:∃ c',fr0[t]?=some (.obj c')
  ·obtain ⟨c',hc'⟩:=hob
   obtain ⟨g1,g2⟩:=h.own t _ hc' rfl
   rw [hd] at g1
   cases g1
   exact .inl ⟨g2,hc'⟩
  ·exact .inr ⟨h1,fun x _ c' e=>hob ⟨c',e⟩⟩
structure QC (S:Sig) (l:List Oper) (c cs:Nat) (a0:Act) (frF fr0:List D) (w0:World):Prop where
 hF:FR S w0 a0 frF
 hX:fr0=frF.set cs .any
 hno:∀ x,frF[cs]? ≠ some (.obj x)
 hok:parOk l.toArray=true
 hlate:lateOk l.toArray c=true
 nonm:∀ (i:Nat) (d:D),frF[i]?=some d→d.nm3=false
theorem QC.isNm {frF fr0:List D} (h:QC S l c cs a0 frF fr0 w0) {i:Nat} {d:D} (hd:frF[i]?=some d) (hn:∀ x,d ≠ .al x):d.isNm=false:=by
 have:=h.nonm i d hd
 cases d<;>first|rfl|(cases this;done)|exact absurd rfl (hn _)
theorem QC.other {frF fr0:List D} (h:QC S l c cs a0 frF fr0 w0) {i:Nat} (hi:i ≠ cs):fr0[i]?=frF[i]?:=by rw [h.hX,List.getElem?_set_ne (Ne.symm hi)]
theorem QC.at_cs {frF fr0:List D} (h:QC S l c cs a0 frF fr0 w0) {d:D} (hd:fr0[cs]?=some d):d=.any:=by
 rw [h.hX] at hd
 have hlt:=(gLt hd)
 rw [List.getElem?_set_self (by simpa using hlt)] at hd
 cases hd
 rfl
theorem QC.hold {frF fr0:List D} (h:QC S l c cs a0 frF fr0 w0) (hR:Rw S cs w0 w) (hS:S'=S∨S'=S.drop cs) {i:Nat} {d:D} {v:Value} (hd:fr0[i]?=some d) (hv:a0.tmps[i]?=some v) (hn:∀ x,d ≠ .al x):Rep S' w (.slot i) v d:=by
 by_cases hi:i=cs
 ·subst hi
  obtain rfl:=h.at_cs hd
  exact .fz (.any _)
 ·rw [h.other hi] at hd
  obtain ⟨h1,h2⟩:=(h.hF.slot i d v hd hv).rep (h.isNm hd hn)
  exact hR.rep h.hF.wf hS h.hno hi h1 h2
theorem QC.wf {frF fr0:List D} (h:QC S l c cs a0 frF fr0 w0) (hR:Rw S cs w0 w) (hS:S'=S∨S'=S.drop cs):WF S' w:=by
 have:=hR.wf h.hF.wf
 rcases hS with rfl|rfl
 ·exact this
 ·exact drop_wf this
theorem sg_or {l:Array Oper} {i:Nat}:sg S l c cs i=S∨sg S l c cs i=S.drop cs:=by
 unfold sg
 split
 ·exact .inr rfl
 ·exact .inl rfl
theorem sg_to {l:Array Oper} {k:Nat} (hS:S'=S∨S'=S.drop cs) (hl:lateOf l c k=true→S'=S.drop cs) {v:Value} {d:D} (h:Fz (sg S l c cs k).lim w v d):Fz S'.lim w v d:=by
 unfold sg at h
 split at h
 ·rename_i hk
  rw [hl hk]
  exact h
 ·rcases hS with rfl|rfl
  ·exact h
  ·exact drop_lim h
theorem sg_loc {l:Array Oper} {k:Nat}:(sg S l c cs k).loc=S.loc:=by
 unfold sg
 split<;>rfl
theorem QC.refOwn {frF fr0:List D} (h:QC S l c cs a0 frF fr0 w0) (hR:Rw S cs w0 w) (hS:S'=S∨S'=S.drop cs) {ds:List D} (hd:fr0[u]?=some (.obj ds)):S'.own (S'.loc (u+2))=some (.slot u,0)∧S'.loc=S.loc:=by
 have hlt:u < a0.tmps.size:=by
  rw [h.hF.size]
  have:=(gLt hd)
  rw [h.hX] at this
  simpa using this
 have hv:a0.tmps[u]?=some a0.tmps[u]:=by simp [hlt]
 have hr:=h.hold hR hS hd hv (fun x e=>by cases e)
 obtain ⟨b,cur,e,_,hb,hloc,_⟩:=hr.obj_inv
 exact ⟨by rw [hloc];exact hb,by rcases hS with rfl|rfl<;>rfl⟩
theorem QC.objVal {frF fr0:List D} (h:QC S l c cs a0 frF fr0 w0) {ds:List D} (hd:fr0[u]?=some (.obj ds)):a0.tmps[u]?=some (.pointer (some ⟨S.loc (u+2),0,none⟩)):=by
 have huc:u ≠ cs:=fun e=>by subst e;have:=h.at_cs hd;cases this
 rw [h.other huc] at hd
 obtain ⟨v,hv,hs⟩:=h.hF.at hd
 obtain ⟨b,cur,e,rfl,_,hloc,_⟩:=hs.1.obj_inv
 rw [hv,hloc]
section
variable {P:Program} {T:Nat→Option TI} {Z:Nat→Option (List Value)}
theorem evalD_nil {x:Operand} (hx:∀ t,x ≠ .tmp t):∃ q,Rep S w q (a.eval x) (evalD [] x):=by
 cases x with
 |tmp t=>exact absurd rfl (hx t)
 |const v=>
  unfold evalD Act.eval
  cases v with
  |agg cs=>exact ⟨.dead,.fz (.any _)⟩
  |_=>exact ⟨.dead,.fz (ofVal_rep _ (by intro cs hc;cases hc))⟩
 |global g=>exact ⟨.dead,.fz (.any _)⟩
 |func f=>exact ⟨.dead,.fz (.fn [] rfl (fun j d v hd=>by simp at hd))⟩
theorem tmp_eval {t:Nat} {v:Value} (h:a.tmps[t]?=some v):a.eval (.tmp t)=v:=by simp [Act.eval,Array.getD_eq_getD_getElem?,h]
theorem QInv.eval {frF fr0 fr:List D} {pre:List Oper} (h:QInv S l.toArray c cs n0 a0 fr0 pre fs a fr) (hC:QC S l c cs a0 frF fr0 w0) (hpre:∀ (k:Nat) (p:Oper),pre[k]?=some p→l[k]?=some p) (ho:l[pre.length]?=some o)
  (hR:Rw S cs w0 w) (hS:S'=S∨S'=S.drop cs) (hSd:∀ e ∈ o.after.toList,Region.binds .any e=true→lateOf l.toArray c e.on=true→S'=S.drop cs)
  (hf:∀ e ∈ o.after.toList,Region.binds .any e=true→(fs.getD e.on (fun _=>True)) w) {x:Operand} (hm:∀ t,x=.tmp t→t ∈ o.looksAt l.toArray):∃ q,Rep S' w q (a.eval x) (evalQ fr0 fr x):=by
 have hF:=hC.hF
 have hok:=hC.hok
 cases x with
 |tmp t=>
  unfold evalQ
  simp only
  cases hd:fr[t]? with
  |none=>exact ⟨.dead,.fz (.any _)⟩
  |some d=>
   rcases h.slot' t d hd with ⟨h1,h2⟩|⟨⟨k,p,v,k1,k2,k3,k4,k5⟩,hno⟩
   ·have hlt:t < a0.tmps.size:=by
     rw [hF.size]
     have:=(gLt h2)
     rw [hC.hX] at this
     simpa using this
    have hv:a0.tmps[t]?=some a0.tmps[t]:=by simp [hlt]
    generalize a0.tmps[t]=v at hv
    have hav:a.eval (.tmp t)=v:=tmp_eval (h1.trans hv)
    rw [hav]
    cases d with
    |al u=>
     have htc:t ≠ cs:=fun e=>by subst e;have:=hC.at_cs h2;cases this
     rw [hC.other htc] at h2
     obtain ⟨g1,d',g2,g3,_⟩:=hF.slot t _ v h2 hv
     simp only
     by_cases huc:u=cs
     ·cases hdu:fr0[u]? with
      |none=>exact ⟨.dead,.fz (.any _)⟩
      |some e=>
       subst huc
       obtain rfl:=hC.at_cs hdu
       exact ⟨.dead,.fz (.any _)⟩
     ·rw [← hC.other huc] at g2
      simp only [g2,Option.getD_some]
      exact ⟨_,hC.hold hR hS g2 g1 (fun x e=>by subst e;simp [D.owns] at g3)⟩
    |obj cs'=>
     simp only [h2]
     exact ⟨.slot t,hC.hold hR hS h2 hv (fun x e=>by cases e)⟩
    |alc u off=>exact ⟨.dead,.fz (.any _)⟩
    |el u off sz k j=>exact ⟨.dead,.fz (.any _)⟩
    |nsl sz n z=>exact ⟨.dead,.fz (.any _)⟩
    |nagg cs' off sz n z=>exact ⟨.dead,.fz (.any _)⟩
    |_=>exact ⟨.slot t,hC.hold hR hS h2 hv (fun x e=>by cases e)⟩
   ·have hkl:k < pre.length:=(gLt k1)
    have hpair:=(parOk_pair hok (i:=pre.length) (k:=k) (o:=o) (p:=p) (by simpa using ho) (by simpa using hpre k p k1) (by omega) k2).2 (hm t rfl)
    have hdep:depOn o k=true:=by
     rcases hpair with h|h
     ·exact h
     ·obtain ⟨e,he,hb,hek⟩:=depOn_spec h
      have:=parOk_before hok (i:=k) (o:=p) (by simpa using hpre k p k1) he hb
      omega
    obtain ⟨e,he,hb,hek⟩:=depOn_spec hdep
    have hfact:=hf e (by simpa using he) hb
    rw [hek,List.getD_eq_getElem?_getD,k4] at hfact
    have hav:a.eval (.tmp t)=v:=tmp_eval k3
    rw [hav]
    simp only [Option.getD_some] at hfact
    have h2:=hfact.2
    have hsd:lateOf l.toArray c k=true→S'=S.drop cs:=fun hk=>hSd e (by simpa using he) hb (by rw [hek];exact hk)
    cases d with
    |al u=>
     simp only
     rcases (k5:AlOk fr0 cs u) with ⟨rfl,_⟩|⟨d',g2,g3⟩
     ·cases hdu:fr0[u]? with
      |none=>exact ⟨.dead,.fz (.any _)⟩
      |some e=>
       obtain rfl:=hC.at_cs hdu
       exact ⟨.dead,.fz (.any _)⟩
     ·have hlt:u < a0.tmps.size:=by
       rw [hF.size]
       have:=(gLt g2)
       rw [hC.hX] at this
       simpa using this
      have hv':a0.tmps[u]?=some a0.tmps[u]:=by simp [hlt]
      simp only at h2
      rw [tmp_eval hv'] at h2
      subst h2
      simp only [g2,Option.getD_some]
      exact ⟨_,hC.hold hR hS g2 hv' (fun x e=>by subst e;simp [D.owns] at g3)⟩
    |ref u off=>
     obtain ⟨ds,hc⟩:=(k5:∃ c,fr0[u]?=some (.obj c))
     have hob:=hC.refOwn hR hS hc
     have hl:(sg S l.toArray c cs k).loc=S'.loc:=by rw [sg_loc,hob.2]
     simp only at h2
     rw [h2,hl]
     exact ⟨.dead,.ref hob.1⟩
    |gref c1 u off=>
     obtain ⟨ds,hc⟩:=(k5:∃ c,fr0[u]?=some (.obj c))
     have hob:=hC.refOwn hR hS hc
     have hl:(sg S l.toArray c cs k).loc=S'.loc:=by rw [sg_loc,hob.2]
     simp only at h2
     rw [hl] at h2
     exact ⟨.dead,.gref hob.1 h2⟩
    |obj cs'=>
     simp only
     split
     ·rename_i c' hc'
      exact absurd hc' (hno _ rfl c')
     ·exact ⟨.dead,.fz (.any _)⟩
    |alc u off=>exact ⟨.dead,.fz (.any _)⟩
    |el u off sz k j=>exact ⟨.dead,.fz (.any _)⟩
    |nsl sz n z=>exact ⟨.dead,.fz (.any _)⟩
    |nagg cs' off sz n z=>exact ⟨.dead,.fz (.any _)⟩
    |_=>exact ⟨.dead,.fz (sg_to hS hsd h2)⟩
 |const v=>exact evalD_nil (fun t e=>by cases e)
 |global g=>exact evalD_nil (fun t e=>by cases e)
 |func f=>exact evalD_nil (fun t e=>by cases e)
theorem gdsQ_rep {S:Sig} {w:World} {a:Act} {fr0 fr:List D}:∀ (xs:List Operand),(∀ x ∈ xs,∃ q,Rep S w q (a.eval x) (evalQ fr0 fr x))→holds (gds (evalQ fr0 fr) xs)→∀ x ∈ xs,∃ q,Rep S w q (a.eval x) (strip (evalQ fr0 fr x))
 |[],_,_,x,hx=>by cases hx
 |y::xs,hr,hg,x,hx=>by
  simp only [gds] at hg
  have key:holds (gds (evalQ fr0 fr) xs)∧∃ q,Rep S w q (a.eval y) (strip (evalQ fr0 fr y)):=by
   obtain ⟨q,hq⟩:=hr y (by simp)
   split at hg
   ·rename_i c d hy
    rw [hy] at hq ⊢
    split at hg
    ·rename_i hn
     rw [hn]
     exact ⟨trivial,.dead,.fz (hq.gd_inv.1 hg)⟩
    ·rename_i p hp
     rw [hp]
     exact ⟨hg.2,.dead,.fz (hq.gd_inv.1 hg.1)⟩
   ·rename_i hn
    refine ⟨hg,q,?_⟩
    generalize evalQ fr0 fr y=d at hq hn ⊢
    cases d with
    |gd c d=>exact absurd rfl (hn c d)
    |_=>exact hq
  rcases List.mem_cons.1 hx with rfl|hx
  ·exact key.2
  ·exact gdsQ_rep xs (fun x hx=>hr x (by simp [hx])) key.1 x hx
theorem QInv.wanted {frF fr0 fr:List D} {pre:List Oper} (h:QInv S l.toArray c cs n0 a0 fr0 pre fs a fr) (hC:QC S l c cs a0 frF fr0 w0) (hpre:∀ (k:Nat) (p:Oper),pre[k]?=some p→l[k]?=some p) (ho:l[pre.length]?=some o)
  (hR:Rw S cs w0 w) (hS:S'=S∨S'=S.drop cs) (hSd:∀ e ∈ o.after.toList,Region.binds .any e=true→lateOf l.toArray c e.on=true→S'=S.drop cs)
  (hf:∀ e ∈ o.after.toList,Region.binds .any e=true→(fs.getD e.on (fun _=>True)) w) {j:Nat} {want cb:Bool} (hg:o.guard=some (j,want)) (hc:condOf l fr j want=some cb):Region.wanted o (yielded l.toArray a.tmps)=cb:=by
 unfold condOf at hc
 split at hc
 ·rename_i oj hj
  split at hc
  ·rename_i t ht
   have hlook:t ∈ o.looksAt l.toArray:=by
    unfold Oper.looksAt
    refine List.mem_append_right _ ?_
    rw [hg]
    simp [hj,ht]
   have hy:∀ v,a.tmps[t]?=some v→((l.toArray[j]?).bind (·.dst)).bind (a.tmps[·]?)=some v:=fun v hv=>by
    simp only [List.getElem?_toArray,hj,Option.bind_some,ht,hv]
   obtain ⟨q,hq⟩:=h.eval hC hpre ho hR hS hSd hf (x:=.tmp t) (fun t' e=>by cases e;exact hlook)
   split at hc
   ·rename_i b hd
    have hlt:t < a.tmps.size:=by rw [h.size];exact (gLt hd)
    have hv:a.tmps[t]?=some a.tmps[t]:=by simp [hlt]
    rw [tmp_eval hv] at hq
    simp only [evalQ,hd] at hq
    have hb:=hq.bool_inv
    refine wanted_at hg (hy _ hv) ?_
    rw [hb]
    cases want<;>simp only [Option.some.injEq] at hc<;>subst hc<;>simp [boolOf]
   ·rename_i c0 b hd
    have hlt:t < a.tmps.size:=by rw [h.size];exact (gLt hd)
    have hv:a.tmps[t]?=some a.tmps[t]:=by simp [hlt]
    rw [tmp_eval hv] at hq
    simp only [evalQ,hd] at hq
    obtain ⟨k1,k0⟩:=hq.gd_inv
    refine wanted_at hg (hy _ hv) ?_
    cases c0 with
    |true=>
     rw [(Rep.fz (S:=S') (p:=.dead) (k1 rfl)).bool_inv]
     cases want<;>simp only [Option.some.injEq] at hc<;>subst hc<;>simp [boolOf]
    |false=>
     rw [k0 rfl]
     cases want<;>simp only [Option.some.injEq] at hc<;>subst hc<;>simp [boolOf,undef]
   ·cases hc
  ·cases hc
 ·cases hc
theorem frzQ_noal {d:D} (ho:okQ d=true):∀ u,frzQ d ≠ .al u:=by
 intro u e
 unfold frzQ at e
 split at e
 ·subst e;rename_i h;cases h
 ·rename_i h
  cases d<;>first|exact Bool.noConfusion (show true=false from h)|exact Bool.noConfusion (show false=true from ho)|(simp [D.frz] at e;done)
theorem frzQ_noref {d:D} (ho:okQ d=true):∀ u off,frzQ d ≠ .ref u off:=by
 intro u off e
 unfold frzQ at e
 split at e
 ·subst e;rename_i h;cases h
 ·rename_i h
  cases d<;>first|exact Bool.noConfusion (show true=false from h)|exact Bool.noConfusion (show false=true from ho)|(simp [D.frz] at e;done)
theorem frzQ_noalc {d:D} (ho:okQ d=true):∀ u off,frzQ d ≠ .alc u off:=by
 intro u off e
 unfold frzQ at e
 split at e
 ·subst e;rename_i h;cases h
 ·rename_i h
  cases d<;>first|exact Bool.noConfusion (show true=false from h)|exact Bool.noConfusion (show false=true from ho)|(simp [D.frz] at e;done)
theorem frzQ_noel {d:D} (ho:okQ d=true):∀ u off sz k j,frzQ d ≠ .el u off sz k j:=by
 intro u off sz k j e
 unfold frzQ at e
 split at e
 ·subst e;rename_i h;cases h
 ·rename_i h
  cases d<;>first|exact Bool.noConfusion (show true=false from h)|exact Bool.noConfusion (show false=true from ho)|(simp [D.frz] at e;done)
theorem frzQ_nogref {d:D} (ho:okQ d=true):∀ c u off,frzQ d ≠ .gref c u off:=by
 intro c u off e
 unfold frzQ at e
 split at e
 ·subst e;rename_i h;cases h
 ·rename_i h
  cases d<;>first|exact Bool.noConfusion (show true=false from h)|exact Bool.noConfusion (show false=true from ho)|(simp [D.frz] at e;done)
theorem frzQ_nm {d:D} (ho:okQ d=true) {fr0:List D} :NmOk fr0 cs (frzQ d):=by
 have h1:=frzQ_noal ho
 have h2:=frzQ_noref ho
 have h3:=frzQ_noalc ho
 have h4:=frzQ_noel ho
 have h5:=frzQ_nogref ho
 generalize frzQ d=e at *
 cases e with
 |al u=>exact absurd rfl (h1 u)
 |gref c u off=>exact absurd rfl (h5 c u off)
 |ref u off=>exact absurd rfl (h2 u off)
 |alc u off=>exact absurd rfl (h3 u off)
 |el u off sz k j=>exact absurd rfl (h4 u off sz k j)
 |_=>trivial
theorem QInv.evAl {frF fr0 fr:List D} {pre:List Oper} (hI:QInv S l.toArray c cs n0 a0 fr0 pre fs a fr) (hC:QC S l c cs a0 frF fr0 w0) (hpre:∀ (k:Nat) (p:Oper),pre[k]?=some p→l[k]?=some p) (ho:l[pre.length]?=some o) {u0:Nat} (hlook:u0 ∈ o.looksAt l.toArray) (hd:fr[u0]?=some (.al u))
  (hf:∀ e ∈ o.after.toList,Region.binds .any e=true→(fs.getD e.on (fun _=>True)) w):a.eval (.tmp u0)=a0.eval (.tmp u):=by
 have hF:=hC.hF
 have hok:=hC.hok
 rcases hI.slot _ _ hd with ⟨h1,h2⟩|⟨k,p,v,k1,k2,k3,k4,k5⟩
 ·have htc:u0 ≠ cs:=fun e=>by subst e;have:=hC.at_cs h2;cases this
  rw [hC.other htc] at h2
  obtain ⟨v,hv,hsl⟩:=hF.at h2
  rw [tmp_eval (h1.trans hv),tmp_eval hsl.1]
 ·have hkl:k < pre.length:=(gLt k1)
  have hpair:=(parOk_pair hok (i:=pre.length) (k:=k) (o:=o) (p:=p) (by simpa using ho) (by simpa using hpre k p k1) (by omega) k2).2 hlook
  have hdep:depOn o k=true:=by
   rcases hpair with h|h
   ·exact h
   ·obtain ⟨e,he,hb,hek⟩:=depOn_spec h
    have:=parOk_before hok (i:=k) (o:=p) (by simpa using hpre k p k1) he hb
    omega
  obtain ⟨e,he,hb,hek⟩:=depOn_spec hdep
  have hfact:=hf e (by simpa using he) hb
  rw [hek,List.getD_eq_getElem?_getD,k4] at hfact
  rw [tmp_eval k3]
  exact hfact.2
theorem one_fact {d:D} {v:Value} (hw:WF S w) (h:d.one=true) (hf:Fz S.lim w v d):Fact S n0 a0 d v w:=by
 refine ⟨hw,?_⟩
 cases d<;>first|exact hf|cases h
theorem Rep.gref_val {q:Place} {v:Value} {c:Bool} (h:Rep S w q v (.gref c u off)):v=if c=true then .pointer (some ⟨S.loc (u+2),off,none⟩) else undef:=by
 cases h with
 |fz h=>cases h
 |gref _ h=>exact h
theorem Rep.ref_val {q:Place} {v:Value} (h:Rep S w q v (.ref u off)):v=.pointer (some ⟨S.loc (u+2),off,none⟩):=by
 cases h with
 |fz h=>cases h
 |ref h=>rfl
theorem QInv.evNm {frF fr0 fr:List D} {pre:List Oper} (hI:QInv S l.toArray c cs n0 a0 fr0 pre fs a fr) (hC:QC S l c cs a0 frF fr0 w0) (hpre:∀ (k:Nat) (p:Oper),pre[k]?=some p→l[k]?=some p) (ho:l[pre.length]?=some o) {u0:Nat} {d:D} (hd:fr[u0]?=some d) (hn:d.nm3=true) (hlook:u0 ∈ o.looksAt l.toArray)
  (hf:∀ e ∈ o.after.toList,Region.binds .any e=true→(fs.getD e.on (fun _=>True)) w):∃ k,Fact (sg S l.toArray c cs k) n0 a0 d (a.eval (.tmp u0)) w∧NmOk fr0 cs d:=by
 have hok:=hC.hok
 rcases hI.slot _ _ hd with ⟨h1,h2⟩|⟨k,p,v,k1,k2,k3,k4,k5⟩
 ·exfalso
  by_cases htc:u0=cs
  ·subst htc
   obtain rfl:=hC.at_cs h2
   cases hn
  ·rw [hC.other htc] at h2
   rw [hC.nonm _ _ h2] at hn
   cases hn
 ·have hkl:k < pre.length:=(gLt k1)
  have hpair:=(parOk_pair hok (i:=pre.length) (k:=k) (o:=o) (p:=p) (by simpa using ho) (by simpa using hpre k p k1) (by omega) k2).2 hlook
  have hdep:depOn o k=true:=by
   rcases hpair with h|h
   ·exact h
   ·obtain ⟨e,he,hb,hek⟩:=depOn_spec h
    have:=parOk_before hok (i:=k) (o:=p) (by simpa using hpre k p k1) he hb
    omega
  obtain ⟨e,he,hb,hek⟩:=depOn_spec hdep
  have hfact:=hf e (by simpa using he) hb
  rw [hek,List.getD_eq_getElem?_getD,k4] at hfact
  rw [tmp_eval k3]
  exact ⟨k,hfact,k5⟩
theorem NewS.sg {sz n:Nat} {z:List D} {v:Value} (h:NewS S n0 sz n z v w) (ho:∀ b,S.own b=none→S'.own b=none):NewS S' n0 sz n z v w:=by
 obtain ⟨b,cap,cur,e,h1,h2,h3,h4,h5,h6,h7,h8,h9,h10⟩:=h
 refine ⟨b,cap,cur,e,h1,h2,ho b h3,h4,h5,h6,h7,h8,h9,fun k j d g1 g2 => ?_⟩
 obtain ⟨u,u1,u2,u3,u4⟩:=h10 k j d g1 g2
 exact ⟨u,u1,u2,u3,flat1_any u3 u4⟩
theorem QC.cellAt {frF fr0:List D} (h:QC S l c cs a0 frF fr0 w0) (hR:Rw S cs w0 w) (hS:S'=S∨S'=S.drop cs) {ds:List D} {d:D} (hd:fr0[u]?=some (.obj ds)) (hc:ds[off]?=some d):∃ y,w.cell? ⟨S.loc (u+2),off,none⟩=some y∧Rep S' w ⟨u+2,[off]⟩ y d:=by
 have hval:=h.objVal hd
 have hr:=h.hold hR hS hd hval (fun x e=>by cases e)
 obtain ⟨b,cur,e,hv,hb,hloc,hh,hsz,h1,ih⟩:=hr.obj_inv
 have hlt:off < cur.size:=by rw [← hsz];exact (gLt hc)
 have hb2:S.loc (u+2)=b:=by cases hv;rfl
 refine ⟨cur[off],?_,ih off d _ hc (by simp [hlt])⟩
 rw [hb2,cell_of_row w b _ _ e (0,0) hh]
 simp [hlt]
theorem stepQ_sound (hT:TOk P T Z) {ci:Nat} {frF fr0 fr:List D} {pre:List Oper} {K:D→Prop} (hC:QC S l ci cs a0 frF fr0 w0) (hpre:∀ (k:Nat) (p:Oper),pre[k]?=some p→l[k]?=some p) (ho:l[pre.length]?=some o)
  (hn0:n0≤w0.heap.size) (hs:stepQ P T Z l cs fr0 fr o K):∃ d,K d∧NmOk fr0 cs d∧∀ (fs:List (World→Prop)) (a:Act),QInv S l.toArray ci cs n0 a0 fr0 pre fs a fr→∀ w,Rw S cs w0 w→(∀ e ∈ o.after.toList,Region.binds .any e=true→(fs.getD e.on (fun _=>True)) w)→StepAt P l.toArray Q o (factSpec (sg S l.toArray ci cs pre.length) n0 a0 d) a w:=by
 obtain ⟨S1,hS1⟩:∃ S1,S1=sg S l.toArray ci cs pre.length:=⟨_,rfl⟩
 rw [← hS1]
 have hSd:∀ e ∈ o.after.toList,Region.binds .any e=true→lateOf l.toArray ci e.on=true→S1=S.drop cs:=fun e he hb hl=>by
  rw [hS1]
  unfold sg
  rw [if_pos (late_dep hC.hlate (by simpa using ho) he hb hl).1]
 have hS1o:S1=S∨S1=S.drop cs:=hS1 ▸ sg_or
 have hF:=hC.hF
 have hok:=hC.hok
 have hops:∀ x ∈ o.op.operands.toList,∀ t,x=.tmp t→t ∈ o.looksAt l.toArray:=fun x hx t e=>by
  subst e
  exact List.mem_append_left _ (List.mem_filterMap.2 ⟨.tmp t,hx,rfl⟩)
 have wfw:∀ {w:World},Rw S cs w0 w→WF S1 w:=fun hx=>hC.wf hx hS1o
 -- a value that is known to be so
 have done:∀ {d:D} (a:Act) (w:World),Rw S cs w0 w→Region.wanted o (yielded l.toArray a.tmps)=true→(∀ K',(∀ v w',Fact S1 n0 a0 d v w'→Ext w w'→K' (a.put o.dst v) w')→o.wp P a w K' (NoPanic Q))→StepAt P l.toArray Q o (factSpec S1 n0 a0 d) a w:=by
  intro d a w _ hw h
  unfold StepAt
  rw [if_pos hw]
  exact fun K' hK=>.inl (h K' fun v w' h1 h2=>hK (0,0,v) w' h1 h2)
 have plainOp:∀ {s:Option Prop} {d:D},holds s→okQ d=true→(holds s→OpOk P o (evalQ fr0 fr) d)→NmOk fr0 cs (frzQ d)∧∀ (fs:List (World→Prop)) (a:Act),QInv S l.toArray ci cs n0 a0 fr0 pre fs a fr→o.guard=none→∀ w,Rw S cs w0 w→(∀ e ∈ o.after.toList,Region.binds .any e=true→(fs.getD e.on (fun _=>True)) w)→StepAt P l.toArray Q o (factSpec S1 n0 a0 (frzQ d)) a w:=by
  intro s d h1 h2 h3
  refine ⟨frzQ_nm h2,fun fs a hI hg w hx hf=>done a w hx (by unfold Region.wanted;rw [hg]) fun K' hK => ?_⟩
  obtain ⟨p,_,_,hp⟩:=fresh_place S1 w (wfw hx)
  refine h3 h1 S1 w a p (wfw hx) (fun x hx'=>hI.eval hC hpre ho hx hS1o hSd hf (hops x hx')) K' _ fun v S' w' hpt hr _=>hK v w' ⟨?_,?_⟩ hpt.ext
  ·exact (PT.ext' (wfw hx) hpt.ext).wf
  ·have hz:=unown (wfw hx) hpt hp hr h2
   have hn:=frzQ_noal h2
   have hn':=frzQ_noref h2
   generalize frzQ d=e at hz hn hn' ⊢
   cases e with
   |al u=>exact absurd rfl (hn u)
   |ref u off=>exact absurd rfl (hn' u off)
   |obj x=>cases hz
   |gref c u off=>cases hz
   |alc u off=>cases hz
   |el u off sz k j=>cases hz
   |nsl sz n z=>cases hz
   |nagg cs' off sz n z=>cases hz
   |_=>exact hz
 unfold stepQ at hs
 split at hs
 ·rename_i hg
  have hopD:(opD P T Z (evalQ fr0 fr) o.op fun s d=>andO s (match okQ d with|true=>force (frzQ d) K|false=>False))→∃ d,K d∧NmOk fr0 cs d∧∀ (fs:List (World→Prop)) (a:Act),QInv S l.toArray ci cs n0 a0 fr0 pre fs a fr→∀ w,Rw S cs w0 w→(∀ e ∈ o.after.toList,Region.binds .any e=true→(fs.getD e.on (fun _=>True)) w)→StepAt P l.toArray Q o (factSpec S1 n0 a0 d) a w:=by
   intro h
   obtain ⟨s,d,h1,h3⟩:=opD_sound (dst:=o.dst) (ty:=o.type) (pos:=o.pos) (after:=o.after) (guard:=o.guard) hT h
   obtain ⟨g1,g2⟩:=andO_iff.1 h1
   split at g2
   ·rename_i hq
    rw [force_eq] at g2
    obtain ⟨k1,k2⟩:=plainOp g1 hq h3
    exact ⟨_,g2,k1,fun fs a hI w hx hf=>k2 fs a hI hg w hx hf⟩
   ·exact g2.elim
  have aliasOp:∀ {u0 u:Nat},o.op=.move (.tmp u0)→AlOk fr0 cs u→(∀ (fs:List (World→Prop)) (a:Act),QInv S l.toArray ci cs n0 a0 fr0 pre fs a fr→∀ w,(∀ e ∈ o.after.toList,Region.binds .any e=true→(fs.getD e.on (fun _=>True)) w)→a.eval (.tmp u0)=a0.eval (.tmp u))→K (.al u)→∃ d,K d∧NmOk fr0 cs d∧∀ (fs:List (World→Prop)) (a:Act),QInv S l.toArray ci cs n0 a0 fr0 pre fs a fr→∀ w,Rw S cs w0 w→(∀ e ∈ o.after.toList,Region.binds .any e=true→(fs.getD e.on (fun _=>True)) w)→StepAt P l.toArray Q o (factSpec S1 n0 a0 d) a w:=by
   intro u0 u hop hown hev hK
   refine ⟨_,hK,hown,fun fs a hI w hx hf=>done a w hx (by unfold Region.wanted;rw [hg]) fun K' hK' => ?_⟩
   obtain ⟨dst,op,ty,pos,after,guard⟩:=o
   simp only at hop
   subst hop
   exact r_move rfl (hK' _ w ⟨wfw hx,hev fs a hI w hf⟩ (Ext.refl w))
  have evAl:∀ {u0 u:Nat},o.op=.move (.tmp u0)→fr[u0]?=some (.al u)→∀ (fs:List (World→Prop)) (a:Act),QInv S l.toArray ci cs n0 a0 fr0 pre fs a fr→∀ w,(∀ e ∈ o.after.toList,Region.binds .any e=true→(fs.getD e.on (fun _=>True)) w)→a.eval (.tmp u0)=a0.eval (.tmp u):=fun hop hd fs a hI w hf=>hI.evAl hC hpre ho (hops (.tmp _) (by rw [hop];simp [Op.operands]) _ rfl) hd hf
  have evRef:∀ {u x off:Nat},.tmp u ∈ o.op.operands.toList→fr[u]?=some (.ref x off)→∀ (fs:List (World→Prop)) (a:Act),QInv S l.toArray ci cs n0 a0 fr0 pre fs a fr→∀ w,Rw S cs w0 w→(∀ e ∈ o.after.toList,Region.binds .any e=true→(fs.getD e.on (fun _=>True)) w)→a.eval (.tmp u)=.pointer (some ⟨S.loc (x+2),off,none⟩):=fun hm hd fs a hI w hx hf=>by
   have hloc:S1.loc=S.loc:=by rcases hS1o with rfl|rfl<;>rfl
   obtain ⟨q,hq⟩:=hI.eval hC hpre ho hx hS1o hSd hf (x:=.tmp _) (fun t e=>by cases e;exact hops _ hm _ rfl)
   simp only [evalQ,hd] at hq
   rw [← hloc]
   exact hq.ref_val
  split at hs
  ·rename_i u0 hop
   split at hs
   ·rename_i hu
    have:=Nat.eq_of_beq_eq_true hu
    subst this
    split at hs
    ·rename_i e he
     refine aliasOp hop (.inl ⟨rfl,e,he⟩) (fun fs a hI w hf => ?_) hs
     simp [Act.eval,Array.getD_eq_getD_getElem?,hI.keep]
    ·exact hs.elim
   ·rename_i hu
    split at hs
    ·rename_i m sz rows hd
     split at hs
     ·rename_i hd0
      refine aliasOp hop (.inr ⟨_,hd0,rfl⟩) (fun fs a hI w hf => ?_) hs
      obtain ⟨_,h2⟩:=hI.own _ _ hd0 rfl
      simp [Act.eval,Array.getD_eq_getD_getElem?,h2]
     ·exact hs.elim
    ·rename_i u' hd
     split at hs
     ·rename_i hu'
      have:=Nat.eq_of_beq_eq_true hu'
      subst this
      split at hs
      ·rename_i e he
       exact aliasOp hop (.inl ⟨rfl,e,he⟩) (evAl hop hd) hs
      ·exact hs.elim
     ·split at hs
      ·rename_i hd0
       exact aliasOp hop (.inr ⟨_,hd0,rfl⟩) (evAl hop hd) hs
      ·exact hs.elim
    ·split at hs
     ·rename_i ds hd0
      refine ⟨_,hs,⟨ds,hd0⟩,fun fs a hI w hx hf=>done a w hx (by unfold Region.wanted;rw [hg]) fun K' hK => ?_⟩
      obtain ⟨_,h2⟩:=hI.own _ _ hd0 rfl
      have hval:=hC.objVal hd0
      have hloc:S1.loc=S.loc:=by rcases hS1o with rfl|rfl<;>rfl
      obtain ⟨dst,op,ty,pos,after,guard⟩:=o
      simp only at hop
      subst hop
      exact r_move (tmp_eval (h2.trans hval)) (hK _ w ⟨wfw hx,by rw [hloc]⟩ (Ext.refl w))
     ·exact hs.elim
    ·rename_i x off hd
     split at hs
     ·rename_i ds hd0
      refine ⟨_,hs,⟨ds,hd0⟩,fun fs a hI w hx hf=>done a w hx (by unfold Region.wanted;rw [hg]) fun K' hK => ?_⟩
      have hev:=evRef (by rw [hop];simp [Op.operands]) hd fs a hI w hx hf
      have hloc:S1.loc=S.loc:=by rcases hS1o with rfl|rfl<;>rfl
      obtain ⟨dst,op,ty,pos,after,guard⟩:=o
      simp only at hop
      subst hop
      exact r_move hev (hK _ w ⟨wfw hx,by rw [hloc]⟩ (Ext.refl w))
     ·exact hs.elim
    ·exact hopD hs
  ·rename_i c x y hop
   have hm:∀ z,z ∈ [c,x,y]→∀ t,z=.tmp t→t ∈ o.looksAt l.toArray:=fun z hz=>hops z (by rw [hop];simpa [Op.operands] using hz)
   obtain ⟨s,r,hp,h12⟩:=pickD_inv hs
   obtain ⟨h1,h2⟩:=andO_iff.1 h12
   rw [force_eq] at h2
   refine ⟨_,h2,trivial,fun fs a hI w hx hf=>done a w hx (by unfold Region.wanted;rw [hg]) fun K' hK => ?_⟩
   have hev:∀ z,z ∈ [c,x,y]→∃ q,Rep S1 w q (a.eval z) (evalQ fr0 fr z):=fun z hz=>hI.eval hC hpre ho hx hS1o hSd hf (hm z hz)
   obtain ⟨p,h3,h4⟩:=pickR_sound (hev c (by simp)) (hev x (by simp)) (hev y (by simp)) hp h1
   obtain ⟨dst,op,ty,pos,after,guard⟩:=o
   simp only at hop
   subst hop
   refine pick_run h3 ?_
   rw [h4]
   exact hK _ w ⟨wfw hx,.bool r⟩ (Ext.refl w)
  ·rename_i ty0 hop
   split at hs
   ·rename_i zc hz
    split at hs
    ·rename_i h1
     rw [force_eq] at hs
     haveI:=hT.zer _ _ hz
     refine ⟨_,hs,trivial,fun fs a hI w hx hf=>done a w hx (by unfold Region.wanted;rw [hg]) fun K' hK => ?_⟩
     obtain ⟨dst,op,ty,pos,after,guard⟩:=o
     simp only at hop
     subst hop
     refine r_alloc fun g w' hb hx' hgs => ?_
     have hw1:=wfw hx
     refine hK _ w' ⟨(PT.ext' hw1 hx').wf,g,_,zc,rfl,?_,?_,hb,rfl,h1⟩ hx'
     ·have:=hx.size
      omega
     ·cases hob:S1.own g with
      |none=>rfl
      |some x=>have:=hw1 g x hob;omega
    ·exact hs.elim
   ·exact hs.elim
  ·rename_i ty0 u i hop
   split at hs
   ·rename_i ds hd
    split at hs
    ·rename_i ht
     split at hs
     ·rename_i off n ag hfl
      haveI:=(hT.ty _ _ ht).2.1 _ _ _ _ hfl
      refine ⟨_,hs,⟨ds,hd⟩,fun fs a hI w hx hf=>done a w hx (by unfold Region.wanted;rw [hg]) fun K' hK => ?_⟩
      obtain ⟨_,h2⟩:=hI.own u _ hd rfl
      have hval:=hC.objVal hd
      have hloc:S1.loc=S.loc:=by rcases hS1o with rfl|rfl<;>rfl
      obtain ⟨dst,op,ty,pos,after,guard⟩:=o
      simp only at hop
      subst hop
      refine r_fieldAddr (tmp_eval (h2.trans hval)) ?_
      rw [Nat.zero_add]
      exact hK _ w ⟨wfw hx,by rw [hloc]⟩ (Ext.refl w)
     ·exact hs.elim
    ·exact hs.elim
   ·split at hs
    ·rename_i x off0 hd
     split at hs
     ·rename_i ds hdx
      split at hs
      ·rename_i ht
       split at hs
       ·rename_i off n ag hfl
        haveI:=(hT.ty _ _ ht).2.1 _ _ _ _ hfl
        refine ⟨_,hs,⟨ds,hdx⟩,fun fs a hI w hx hf=>done a w hx (by unfold Region.wanted;rw [hg]) fun K' hK => ?_⟩
        have hev:=evRef (by rw [hop];simp [Op.operands]) hd fs a hI w hx hf
        have hloc:S1.loc=S.loc:=by rcases hS1o with rfl|rfl<;>rfl
        obtain ⟨dst,op,ty,pos,after,guard⟩:=o
        simp only at hop
        subst hop
        refine r_fieldAddr hev ?_
        exact hK _ w ⟨wfw hx,by rw [hloc]⟩ (Ext.refl w)
       ·exact hs.elim
      ·exact hs.elim
     ·exact hs.elim
    ·rename_i x c0 sz k j hd
     split at hs
     ·rename_i ht
      split at hs
      ·rename_i off n ag hfl
       split at hs
       ·rename_i ds hdx
        haveI:=(hT.ty _ _ ht).2.1 _ _ _ _ hfl
        have hlook:u ∈ o.looksAt l.toArray:=hops (.tmp u) (by rw [hop];simp [Op.operands]) u rfl
        refine ⟨_,hs,⟨ds,hdx⟩,fun fs a hI w hx hf=>done a w hx (by unfold Region.wanted;rw [hg]) fun K' hK => ?_⟩
        have hloc:S1.loc=S.loc:=by rcases hS1o with rfl|rfl<;>rfl
        obtain ⟨k',hfact,_⟩:=hI.evNm hC hpre ho hd rfl hlook hf
        obtain ⟨s,hs1,b,cap,m,e1,e2⟩:=hfact.2
        rw [sg_loc] at hs1
        obtain ⟨dst,op,ty,pos,after,guard⟩:=o
        simp only at hop
        subst hop
        refine r_fieldAddr e2 ?_
        refine hK _ w ⟨wfw hx,s,by rw [hloc];exact hs1,b,cap,m,e1,?_⟩ (Ext.refl w)
        rw [Nat.add_assoc]
       ·exact hs.elim
      ·exact hs.elim
     ·exact hs.elim
    ·exact hopD hs
  ·rename_i u hop
   split at hs
   ·rename_i x off hd
    split at hs
    ·rename_i ds hdx
     refine ⟨_,hs,⟨ds,hdx⟩,fun fs a hI w hx hf=>done a w hx (by unfold Region.wanted;rw [hg]) fun K' hK => ?_⟩
     have hev:=evRef (by rw [hop];simp [Op.operands]) hd fs a hI w hx hf
     have hloc:S1.loc=S.loc:=by rcases hS1o with rfl|rfl<;>rfl
     obtain ⟨dst,op,ty,pos,after,guard⟩:=o
     simp only at hop
     subst hop
     exact r_nilCheck hev (hK _ w ⟨wfw hx,by rw [hloc]⟩ (Ext.refl w))
    ·exact hs.elim
   ·exact hopD hs
  ·rename_i ty0 u hop
   have hloc:S1.loc=S.loc:=by rcases hS1o with rfl|rfl<;>rfl
   have hlook:u ∈ o.looksAt l.toArray:=hops (.tmp u) (by rw [hop];simp [Op.operands]) u rfl
   have oneK:∀ {d:D},d.one=true→(∀ (fs:List (World→Prop)) (a:Act),QInv S l.toArray ci cs n0 a0 fr0 pre fs a fr→∀ w,Rw S cs w0 w→(∀ e ∈ o.after.toList,Region.binds .any e=true→(fs.getD e.on (fun _=>True)) w)→∃ A y,a.eval (.tmp u)=.pointer (some A)∧w.cell? A=some y∧Fz S1.lim w y d)→TOne P ty0→K d→∃ d,K d∧NmOk fr0 cs d∧∀ (fs:List (World→Prop)) (a:Act),QInv S l.toArray ci cs n0 a0 fr0 pre fs a fr→∀ w,Rw S cs w0 w→(∀ e ∈ o.after.toList,Region.binds .any e=true→(fs.getD e.on (fun _=>True)) w)→StepAt P l.toArray Q o (factSpec S1 n0 a0 d) a w:=by
    intro d h1 h2 h3 h4
    haveI:=h3
    refine ⟨d,h4,(by cases d<;>first|trivial|cases h1),fun fs a hI w hx hf=>done a w hx (by unfold Region.wanted;rw [hg]) fun K' hK => ?_⟩
    obtain ⟨A,y,e1,e2,e3⟩:=h2 fs a hI w hx hf
    obtain ⟨dst,op,ty,pos,after,guard⟩:=o
    simp only at hop
    subst hop
    exact r_load1 e1 e2 (hK _ w (one_fact (wfw hx) h1 e3) (Ext.refl w))
   split at hs
   ·rename_i x off hd
    have evr:∀ (fs:List (World→Prop)) (a:Act),QInv S l.toArray ci cs n0 a0 fr0 pre fs a fr→∀ w,Rw S cs w0 w→(∀ e ∈ o.after.toList,Region.binds .any e=true→(fs.getD e.on (fun _=>True)) w)→a.eval (.tmp u)=.pointer (some ⟨S.loc (x+2),off,none⟩):=fun fs a hI w hx hf=>by
     obtain ⟨q,hq⟩:=hI.eval hC hpre ho hx hS1o hSd hf (x:=.tmp u) (fun t e=>by cases e;exact hlook)
     simp only [evalQ,hd] at hq
     rw [← hloc]
     exact hq.ref_val
    split at hs
    ·rename_i ds hob
     split at hs
     ·rename_i sz rows hc
      split at hs
      ·rename_i e1 sz1 by1 zc1 ht
       haveI:=(hT.ty _ _ ht).one (fun n fl ks e=>by cases e)
       refine ⟨_,hs,⟨ds,hob⟩,fun fs a hI w hx hf=>done a w hx (by unfold Region.wanted;rw [hg]) fun K' hK => ?_⟩
       have e1:=evr fs a hI w hx hf
       obtain ⟨y,hy,_⟩:=hC.cellAt hx hS1o hob hc
       obtain ⟨dst,op,ty,pos,after,guard⟩:=o
       simp only at hop
       subst hop
       exact r_load1 e1 hy (hK _ w ⟨wfw hx,by show w.cell? ⟨S1.loc (x+2),off,none⟩=some y;rw [hloc];exact hy⟩ (Ext.refl w))
      ·exact hs.elim
     ·rename_i sz rows hc
      split at hs
      ·rename_i e1 sz1 by1 zc1 ht
       rw [force_eq] at hs
       refine oneK (d:=.sl 0 sz rows) rfl (fun fs a hI w hx hf => ?_) ((hT.ty _ _ ht).one (fun n fl ks e=>by cases e)) hs
       obtain ⟨y,hy,hr⟩:=hC.cellAt hx hS1o hob hc
       exact ⟨_,y,evr fs a hI w hx hf,hy,(hr.le (.own sz rows)).passes rfl⟩
      ·exact hs.elim
     ·rename_i d _ hc
      split at hs
      ·rename_i h1
       split at hs
       ·exact hs.elim
       ·rename_i i hi ht
        rw [force_eq] at hs
        refine oneK h1 (fun fs a hI w hx hf => ?_) ((hT.ty _ _ ht).one (fun n fl ks e=>hi n fl ks e)) hs
        obtain ⟨y,hy,hr⟩:=hC.cellAt hx hS1o hob hc
        exact ⟨_,y,evr fs a hI w hx hf,hy,D.one_fz hr h1⟩
       ·exact hs.elim
      ·exact hs.elim
     ·exact hs.elim
    ·exact hs.elim
   ·rename_i x c0 sz k j hd
    split at hs
    ·rename_i ds hob
     split at hs
     ·rename_i sz' rows hc
      split at hs
      ·rename_i he
       obtain rfl:=Nat.eq_of_beq_eq_true he
       split at hs
       ·exact hs.elim
       ·rename_i i hi ht
        obtain ⟨r,⟨_,hr⟩,hs⟩:=hs.h
        have hr:rows[k]?=some r:=hr
        split at hs
        ·rename_i d hrd
         split at hs
         ·rename_i h1
          rw [force_eq] at hs
          refine oneK h1 (fun fs a hI w hx hf => ?_) ((hT.ty _ _ ht).one (fun n fl ks e=>hi n fl ks e)) hs
          obtain ⟨k',hfact,_⟩:=hI.evNm hC hpre ho hd rfl hlook hf
          obtain ⟨s,hs1,hs2⟩:=hfact.2
          rw [sg_loc] at hs1
          obtain ⟨y,hy,hrep⟩:=hC.cellAt hx hS1o hob hc
          rw [hy] at hs1
          cases hs1
          obtain ⟨b,cap,cur,e,hv1,hv2,g⟩:=el_at hrep hs2 hr
          obtain ⟨z,z1,z2,z3⟩:=g.elem hr hrd
          exact ⟨_,z,by first|exact hv1|exact hv2,z1,z3⟩
         ·exact hs.elim
        ·exact hs.elim
       ·exact hs.elim
      ·exact hs.elim
     ·exact hs.elim
    ·exact hs.elim
   ·exact hopD hs
  ·exact hopD hs
 ·rename_i j want hg
  split at hs
  ·rename_i c hc
   -- carried out, or passed over
   have both:∀ {d:D} (a:Act) (w:World) (fs:List (World→Prop)),QInv S l.toArray ci cs n0 a0 fr0 pre fs a fr→Rw S cs w0 w→(∀ e ∈ o.after.toList,Region.binds .any e=true→(fs.getD e.on (fun _=>True)) w)→
     (c=true→∀ K',(∀ v w',Fz S1.lim w' v d→Ext w w'→K' (a.put o.dst v) w')→o.wp P a w K' (NoPanic Q))→StepAt P l.toArray Q o (factSpec S1 n0 a0 (.gd c d)) a w:=by
    intro d a w fs hI hx hf h
    have hw:=hI.wanted hC hpre ho hx hS1o hSd hf hg hc
    unfold StepAt
    rw [hw]
    cases c with
    |true=>
     rw [if_pos rfl]
     exact fun K' hK=>.inl (h rfl K' fun v w' h1 h2=>hK (0,0,v) w' ⟨(PT.ext' (wfw hx) h2).wf,.gd (fun _=>h1) (fun e=>by cases e)⟩ h2)
    |false=>
     rw [if_neg (by simp)]
     exact ⟨(0,0,undef),rfl,wfw hx,.gd (fun e=>by cases e) (fun _=>rfl)⟩
   have hopG:opG P T Z fr0 fr c o.op K→∃ d,K d∧NmOk fr0 cs d∧∀ (fs:List (World→Prop)) (a:Act),QInv S l.toArray ci cs n0 a0 fr0 pre fs a fr→∀ w,Rw S cs w0 w→(∀ e ∈ o.after.toList,Region.binds .any e=true→(fs.getD e.on (fun _=>True)) w)→StepAt P l.toArray Q o (factSpec S1 n0 a0 d) a w:=by
    intro hs
    unfold opG at hs
    obtain ⟨s,d,h1,h3⟩:=opD_sound (dst:=o.dst) (ty:=o.type) (pos:=o.pos) (after:=o.after) (guard:=o.guard) hT hs
    obtain ⟨h1,h2⟩:=andO_iff.1 h1
    split at h2
    ·rename_i hpass
     rw [force_eq] at h2
     refine ⟨_,h2,trivial,fun fs a hI w hx hf=>both a w fs hI hx hf fun hct K' hK => ?_⟩
     obtain ⟨hgd,hs'⟩:=under_holds h1 hct
     obtain ⟨p,_,_,hp⟩:=fresh_place S1 w (wfw hx)
     refine h3 hs' S1 w a p (wfw hx) (fun x hx'=>gdsQ_rep _ (fun z hz=>hI.eval hC hpre ho hx hS1o hSd hf (hops z hz)) hgd x hx') K' _ fun v S' w' hpt hr _=>hK v w' ?_ hpt.ext
     have hok':okQ d=true:=by unfold okQ;rw [hpass]
     have hz:=unown (wfw hx) hpt hp hr hok'
     have e:frzQ d=d:=by unfold frzQ;rw [hpass]
     rwa [e] at hz
    ·exact h2.elim
   have hloc:S1.loc=S.loc:=by rcases hS1o with rfl|rfl<;>rfl
   have bothR:∀ {x off:Nat} (a:Act) (w:World) (fs:List (World→Prop)),QInv S l.toArray ci cs n0 a0 fr0 pre fs a fr→Rw S cs w0 w→(∀ e ∈ o.after.toList,Region.binds .any e=true→(fs.getD e.on (fun _=>True)) w)→
     (c=true→∀ K':Act→World→Prop,K' (a.put o.dst (.pointer (some ⟨S.loc (x+2),off,none⟩))) w→o.wp P a w K' (NoPanic Q))→StepAt P l.toArray Q o (factSpec S1 n0 a0 (.gref c x off)) a w:=by
    intro x off a w fs hI hx hf h
    have hw:=hI.wanted hC hpre ho hx hS1o hSd hf hg hc
    unfold StepAt
    rw [hw]
    cases c with
    |true=>
     rw [if_pos rfl]
     exact fun K' hK=>.inl (h rfl K' (hK (0,0,_) w ⟨wfw hx,by show (_:Value)=if true=true then _ else _;rw [hloc,if_pos rfl]⟩ (Ext.refl w)))
    |false=>
     rw [if_neg (by simp)]
     exact ⟨(0,0,undef),rfl,wfw hx,rfl⟩
   have evG:∀ {u x off:Nat} {c':Bool},.tmp u ∈ o.op.operands.toList→fr[u]?=some (.gref c' x off)→∀ (fs:List (World→Prop)) (a:Act),QInv S l.toArray ci cs n0 a0 fr0 pre fs a fr→∀ w,Rw S cs w0 w→(∀ e ∈ o.after.toList,Region.binds .any e=true→(fs.getD e.on (fun _=>True)) w)→c'=true→a.eval (.tmp u)=.pointer (some ⟨S.loc (x+2),off,none⟩):=fun hm hd fs a hI w hx hf hct=>by
    obtain ⟨q,hq⟩:=hI.eval hC hpre ho hx hS1o hSd hf (x:=.tmp _) (fun t e=>by cases e;exact hops _ hm _ rfl)
    simp only [evalQ,hd] at hq
    rw [hq.gref_val,if_pos hct,hloc]
   split at hs
   ·rename_i cc x y hop
    have hm:∀ z,z ∈ [cc,x,y]→∀ t,z=.tmp t→t ∈ o.looksAt l.toArray:=fun z hz=>hops z (by rw [hop];simpa [Op.operands] using hz)
    obtain ⟨s,r,hp,h12⟩:=pickD_inv hs
    obtain ⟨h1,h2⟩:=andO_iff.1 h12
    refine ⟨_,h2,trivial,fun fs a hI w hx hf=>both a w fs hI hx hf fun hct K' hK => ?_⟩
    have hev:∀ z,z ∈ [cc,x,y]→∃ q,Rep S1 w q (a.eval z) (evalQ fr0 fr z):=fun z hz=>hI.eval hC hpre ho hx hS1o hSd hf (hm z hz)
    obtain ⟨hgd,hs'⟩:=under_holds h1 hct
    obtain ⟨p,h3,h4⟩:=pickR_sound (gdsQ_rep [cc] (fun z hz=>hev z (by simp at hz;simp [hz])) hgd cc (by simp)) (hev x (by simp)) (hev y (by simp)) hp hs'
    obtain ⟨dst,op,ty,pos,after,guard⟩:=o
    simp only at hop
    subst hop
    refine pick_run h3 ?_
    rw [h4]
    exact hK _ w (.bool r) (Ext.refl w)
   ·rename_i u hop
    split at hs
    ·rename_i ds hob
     refine ⟨_,hs,⟨ds,hob⟩,fun fs a hI w hx hf=>bothR a w fs hI hx hf fun hct K' hK => ?_⟩
     obtain ⟨_,h2⟩:=hI.own u _ hob rfl
     have hval:=hC.objVal hob
     obtain ⟨dst,op,ty,pos,after,guard⟩:=o
     simp only at hop
     subst hop
     exact r_move (tmp_eval (h2.trans hval)) hK
    ·exact hopG hs
   ·rename_i u hop
    split at hs
    ·rename_i c' x off hd
     split at hs
     ·rename_i ds hob
      obtain ⟨hcc,hs⟩:=hs
      refine ⟨_,hs,⟨ds,hob⟩,fun fs a hI w hx hf=>bothR a w fs hI hx hf fun hct K' hK => ?_⟩
      have hev:=evG (by rw [hop];simp [Op.operands]) hd fs a hI w hx hf (hcc hct)
      obtain ⟨dst,op,ty,pos,after,guard⟩:=o
      simp only at hop
      subst hop
      exact r_nilCheck hev hK
     ·exact hs.elim
    ·exact hopG hs
   ·rename_i ty0 u i hop
    split at hs
    ·rename_i c' x off0 hd
     split at hs
     ·rename_i ds hob
      split at hs
      ·rename_i ht
       split at hs
       ·rename_i off n ag hfl
        obtain ⟨hcc,hs⟩:=hs
        haveI:=(hT.ty _ _ ht).2.1 _ _ _ _ hfl
        refine ⟨_,hs,⟨ds,hob⟩,fun fs a hI w hx hf=>bothR a w fs hI hx hf fun hct K' hK => ?_⟩
        have hev:=evG (by rw [hop];simp [Op.operands]) hd fs a hI w hx hf (hcc hct)
        obtain ⟨dst,op,ty,pos,after,guard⟩:=o
        simp only at hop
        subst hop
        exact r_fieldAddr hev hK
       ·exact hs.elim
      ·exact hs.elim
     ·exact hs.elim
    ·exact hopG hs
   ·rename_i ty0 u hop
    split at hs
    ·rename_i c' x off hd
     split at hs
     ·rename_i ds hob
      split at hs
      ·rename_i sz rows hcd
       split at hs
       ·rename_i e1 sz1 by1 zc1 ht
        obtain ⟨hcc,hs⟩:=hs
        rw [force_eq] at hs
        haveI:=(hT.ty _ _ ht).one (fun n fl ks e=>by cases e)
        refine ⟨_,hs,trivial,fun fs a hI w hx hf=>both a w fs hI hx hf fun hct K' hK => ?_⟩
        have hev:=evG (by rw [hop];simp [Op.operands]) hd fs a hI w hx hf (hcc hct)
        obtain ⟨y,hy,hr⟩:=hC.cellAt hx hS1o hob hcd
        obtain ⟨dst,op,ty,pos,after,guard⟩:=o
        simp only at hop
        subst hop
        exact r_load1 hev hy (hK _ w ((hr.le (.own sz rows)).passes rfl) (Ext.refl w))
       ·exact hs.elim
      ·rename_i d _ hcd
       split at hs
       ·rename_i h1
        split at hs
        ·exact hs.elim
        ·rename_i i hi ht
         obtain ⟨hcc,hs⟩:=hs
         rw [force_eq] at hs
         haveI:=(hT.ty _ _ ht).one (fun n fl ks e=>hi n fl ks e)
         refine ⟨_,hs,trivial,fun fs a hI w hx hf=>both a w fs hI hx hf fun hct K' hK => ?_⟩
         have hev:=evG (by rw [hop];simp [Op.operands]) hd fs a hI w hx hf (hcc hct)
         obtain ⟨y,hy,hr⟩:=hC.cellAt hx hS1o hob hcd
         obtain ⟨dst,op,ty,pos,after,guard⟩:=o
         simp only at hop
         subst hop
         exact r_load1 hev hy (hK _ w (D.one_fz hr h1) (Ext.refl w))
        ·exact hs.elim
       ·exact hs.elim
      ·exact hs.elim
     ·exact hs.elim
    ·exact hopG hs
   ·exact hopG hs
  ·exact hs.elim
theorem QInv.step {fr0 fr:List D} {pre:List Oper} {d:D} {v:Value} (h:QInv S l.toArray c cs n0 a0 fr0 pre fs a fr)
  (hal:NmOk fr0 cs d) {fr':List D} (hfr:(o.dst=none∧fr'=fr)∨∃ t d0,o.dst=some t∧fr[t]?=some d0∧d0.owns=false∧t ≠ cs∧fr'=fr.set t d):QInv S l.toArray c cs n0 a0 fr0 (pre ++ [o]) (fs ++ [Fact (sg S l.toArray c cs pre.length) n0 a0 d v]) (a.put o.dst v) fr':=by
 have ext:∀ (k:Nat) (p:Oper),pre[k]?=some p→(pre ++ [o])[k]?=some p:=fun k p hk=>by
  rw [List.getElem?_append_left (gLt hk)];exact hk
 have extf:∀ (k:Nat) (f:World→Prop),fs[k]?=some f→(fs ++ [Fact (sg S l.toArray c cs pre.length) n0 a0 d v])[k]?=some f:=fun k p hk=>by
  rw [List.getElem?_append_left (gLt hk)];exact hk
 rcases hfr with ⟨hn,rfl⟩|⟨t,d0,ht,h0,hd0,htc,rfl⟩
 ·rw [hn]
  refine ⟨h.size,h.len,h.defers,by simp [h.fslen],fun t e he => ?_,h.own,h.keep⟩
  rcases h.slot t e he with hl|⟨k,p,u,k1,k2,k3,k4,k5⟩
  ·exact .inl hl
  ·exact .inr ⟨k,p,u,ext k p k1,k2,k3,extf k _ k4,k5⟩
 ·rw [ht]
  have hlt:t < fr.length:=(gLt h0)
  refine ⟨by simp [Act.put,h.size],by simp [h.len],by simp [Act.put,h.defers],by simp [h.fslen],fun x e he => ?_,fun u e he hoe => ?_,by rw [put_tmps_ne (Ne.symm htc)];exact h.keep⟩
  ·by_cases hxt:x=t
   ·subst hxt
    rw [List.getElem?_set_self hlt] at he
    cases he
    refine .inr ⟨pre.length,o,v,by simp,ht,put_tmps_eq (by rw [h.size];exact hlt),?_,hal⟩
    rw [← h.fslen];simp
   ·rw [List.getElem?_set_ne (Ne.symm hxt)] at he
    rw [put_tmps_ne hxt]
    rcases h.slot x e he with hl|⟨k,p,u,k1,k2,k3,k4,k5⟩
    ·exact .inl hl
    ·exact .inr ⟨k,p,u,ext k p k1,k2,k3,extf k _ k4,k5⟩
  ·obtain ⟨g1,g2⟩:=h.own u e he hoe
   have hut:u ≠ t:=fun e'=>by subst e';rw [g1] at h0;cases h0;rw [hoe] at hd0;cases hd0
   exact ⟨by rw [List.getElem?_set_ne (Ne.symm hut)];exact g1,by rw [put_tmps_ne hut];exact g2⟩
def D.isNew:D→Bool
 |.nsl _ _ _ | .nagg _ _ _ _ _=>true
 |_=>false
theorem QInv.fr {frF fr0 fr:List D} {pre:List Oper} (h:QInv S l.toArray c cs n0 a0 fr0 pre fs a fr) (hC:QC S l c cs a0 frF fr0 w0) (hR:Rw S cs w0 w) (hf:∀ f ∈ fs,f w) (hnob:∀ (i:Nat) (x:List D),fr[i]?=some (D.obj x)→∃ c':List D,fr0[i]?=some (D.obj c')) (hnew:∀ (i:Nat) (d:D),fr[i]?=some d→d.isNew=false):FR (S.drop cs) w a (fr.map (unal cs .any))∧(fr0[cs]?=none→FR (S.drop cs) w a fr):=by
 have hF:=hC.hF
 have hwf:=hC.wf hR (.inr rfl)
 -- whatever frame holds what the owners are
 have key:∀ F:List D,(∀ u d,u ≠ cs→fr0[u]?=some d→d.owns=true→F[u]?=some d)→∀ (i:Nat) (d:D) (v:Value),fr[i]?=some d→a.tmps[i]?=some v→d ≠ .al cs→SlotRep (S.drop cs) w a F i v d:=by
  intro F hFo i d v hd hv hnc
  have hrk:∀ e,RefOk frF e→RefOk F e:=fun e he x hx=>by
   obtain ⟨cs',hc⟩:=he x hx
   have hxc:x ≠ cs:=fun e=>by subst e;exact hC.hno _ hc
   rw [← hC.other hxc] at hc
   exact ⟨cs',hFo x _ hxc hc rfl⟩
  rcases h.slot' i d hd with ⟨h1,h2⟩|⟨⟨k,p,u,k1,k2,k3,k4,k5⟩,hnx⟩
  ·by_cases hic:i=cs
   ·subst hic
    obtain rfl:=hC.at_cs h2
    exact SlotRep.of (.fz (.any _)) fun t ht=>by cases ht
   ·rw [hC.other hic] at h2
    have hs:=hF.slot i d v h2 (h1.symm.trans hv)
    cases d with
    |al x=>
     obtain ⟨g1,d',g2,g3,g4⟩:=hs
     have hxc:x ≠ cs:=fun e=>hnc (by rw [e])
     rw [← hC.other hxc] at g2
     obtain ⟨q1,q2⟩:=h.own x d' g2 g3
     exact ⟨q2.trans g1,d',hFo x d' hxc g2 g3,g3,g4⟩
    |alc x o=>exact absurd (hC.nonm i _ h2) (fun e=>by cases e)
    |el x o sz k j=>exact absurd (hC.nonm i _ h2) (fun e=>by cases e)
    |es x sz k j=>exact absurd (hC.nonm i _ h2) (fun e=>by cases e)
    |_=>exact ⟨hR.rep hF.wf (.inr rfl) hC.hno hic hs.1 hs.2,hrk _ hs.2⟩
  ·obtain rfl:u=v:=Option.some.inj (k3.symm.trans hv)
   have h2:=(hf _ (gMem k4)).2
   cases d with
   |al x=>
    rcases (k5:AlOk fr0 cs x) with ⟨rfl,_⟩|⟨d',g2,g3⟩
    ·exact absurd rfl hnc
    ·have hxc:x ≠ cs:=fun e=>hnc (by rw [e])
     obtain ⟨q1,q2⟩:=h.own x d' g2 g3
     have hg2:=g2
     rw [hC.other hxc] at hg2
     obtain ⟨v',hv',_⟩:=hF.at hg2
     simp only at h2
     rw [tmp_eval hv'] at h2
     subst h2
     refine ⟨q2.trans hv',d',hFo x d' hxc g2 g3,g3,fun e => ?_⟩
     subst e
     rw [q1] at hd
     cases hd
     cases g3
   |ref x off=>
    obtain ⟨ds,hds⟩:=(k5:∃ c,fr0[x]?=some (.obj c))
    have hxc:x ≠ cs:=fun e=>by subst e;have:=hC.at_cs hds;cases this
    have hob:=hC.refOwn hR (.inr rfl) hds
    simp only at h2
    rw [sg_loc,← hob.2] at h2
    rw [h2]
    exact ⟨.ref hob.1,fun t ht=>by cases ht;exact ⟨ds,hFo x _ hxc hds rfl⟩⟩
   |gref c1 x off=>
    obtain ⟨ds,hds⟩:=(k5:∃ c,fr0[x]?=some (.obj c))
    have hxc:x ≠ cs:=fun e=>by subst e;have:=hC.at_cs hds;cases this
    have hob:=hC.refOwn hR (.inr rfl) hds
    simp only at h2
    rw [sg_loc,← hob.2] at h2
    exact ⟨.gref hob.1 h2,fun t ht=>by cases ht;exact ⟨ds,hFo x _ hxc hds rfl⟩⟩
   |obj x=>
    obtain ⟨c',hc'⟩:=hnob i x hd
    exact absurd hc' (hnx x rfl c')
   |alc x o=>
    obtain ⟨ds,hds⟩:=(k5:∃ c,fr0[x]?=some (.obj c))
    have hxc:x ≠ cs:=fun e=>by subst e;have:=hC.at_cs hds;cases this
    have hob:=hC.refOwn hR (.inr rfl) hds
    have h2:w.cell? ⟨(sg S l.toArray c cs k).loc (x+2),o,none⟩=some u:=h2
    rw [sg_loc,← hob.2] at h2
    exact ⟨⟨⟨ds,hFo x _ hxc hds rfl⟩,hob.1⟩,h2⟩
   |el x o sz k0 j=>
    obtain ⟨ds,hds⟩:=(k5:∃ c,fr0[x]?=some (.obj c))
    have hxc:x ≠ cs:=fun e=>by subst e;have:=hC.at_cs hds;cases this
    have hob:=hC.refOwn hR (.inr rfl) hds
    obtain ⟨s,h3,h4⟩:∃ s,w.cell? ⟨(sg S l.toArray c cs k).loc (x+2),o,none⟩=some s∧ElAt s sz k0 j u:=h2
    rw [sg_loc,← hob.2] at h3
    exact ⟨⟨⟨ds,hFo x _ hxc hds rfl⟩,hob.1⟩,s,h3,h4⟩
   |es x sz k j=>exact absurd (h2:Fz _ _ _ _) (fun e=>by cases e)
   |nsl sz n z=>cases hnew i _ hd
   |nagg cs' off sz n z=>cases hnew i _ hd
   |_=>exact ⟨.fz (sg_to (.inr rfl) (fun _=>rfl) h2),fun t ht=>(Fz.men h2 ht).elim⟩
 refine ⟨⟨hwf,by simp [h.size],h.defers,fun i d v hd hv => ?_⟩,fun hn=>⟨hwf,h.size,h.defers,fun i d v hd hv=>key fr (fun u d _ h1 h2=>(h.own u d h1 h2).1) i d v hd hv fun e => ?_⟩⟩
 ·rw [List.getElem?_map] at hd
  cases hfi:fr[i]? with
  |none=>rw [hfi] at hd;cases hd
  |some e=>
   rw [hfi] at hd
   cases hd
   by_cases hnc:e=.al cs
   ·subst hnc
    simp only [unal,if_pos]
    exact SlotRep.of (.fz (.any _)) fun t ht=>by cases ht
   ·have hk:=key (fr.map (unal cs .any)) (fun u d _ h1 h2=>by
     rw [List.getElem?_map,(h.own u d h1 h2).1]
     cases d<;>first|rfl|cases h2) i e v hfi hv hnc
    have he:unal cs .any e=e:=by
     cases e with
     |al x=>simp only [unal];rw [if_neg (fun e'=>hnc (by rw [e']))]
     |es x sz k j=>
      exfalso
      rcases h.slot' i _ hfi with ⟨_,h2⟩|⟨⟨k,p,u,k1,k2,k3,k4,k5⟩,_⟩
      ·by_cases hic:i=cs
       ·subst hic
        cases hC.at_cs h2
       ·rw [hC.other hic] at h2
        exact absurd (hC.nonm i _ h2) (fun e=>by cases e)
      ·have h2:=(hf _ (gMem k4)).2
       exact absurd (h2:Fz _ _ _ _) (fun e=>by cases e)
     |_=>rfl
    rw [he]
    exact hk
 ·subst e
  rcases h.slot i _ hd with ⟨h1,h2⟩|⟨k,p,u,k1,k2,k3,k4,k5⟩
  ·have hic:i ≠ cs:=fun e=>by subst e;rw [hn] at h2;cases h2
   rw [hC.other hic] at h2
   obtain ⟨g1,d',g2,g3,g4⟩:=hF.slot i _ v h2 (h1.symm.trans hv)
   rw [hC.hX,List.getElem?_set] at hn
   simp only [if_true] at hn
   split at hn
   ·cases hn
   ·rename_i hlt
    exact hlt (gLt g2)
  ·rcases (k5:AlOk fr0 cs cs) with ⟨_,e,he⟩|⟨d',g2,_⟩
   ·rw [hn] at he;cases he
   ·rw [hn] at g2;cases g2
def keepQ (t:Nat) (d:D):D:=
 match d with
 |.ref u o=>match Nat.beq u t with
  |true=>.any
  |false=>.ref u o
 |.al u=>match Nat.beq u t with
  |true=>.any
  |false=>.al u
 |.gd c d=>match d.flat with
  |true=>.gd c d
  |false=>.any
 |d=>match d.flat with
  |true=>d
  |false=>.any
def memN (t:Nat):List Nat→Bool
 |[]=>false
 |x::r=>Nat.beq t x || memN t r
theorem memN_iff {t:Nat}:∀ {l:List Nat},memN t l=true↔t ∈ l
 |[]=>by simp [memN]
 |x::r=>by simp [memN,memN_iff (l:=r)]
def ownsAt (fr0:List D) (i:Nat):Bool:=match fr0[i]? with
 |some d=>d.owns
 |none=>false
def keepL (t:Nat) (wr:List Nat) (fr0:List D):Nat→List D→List D
 |_,[] => []
 | i,d::r=>(match memN i wr && !(Nat.beq i t || ownsAt fr0 i) with
  |true=>keepQ t d
  | false=>d)::keepL t wr fr0 (i+1) r
theorem keepL_at {t:Nat} {wr:List Nat} {fr0:List D}:∀ {l:List D} {i j:Nat},(keepL t wr fr0 i l)[j]?=l[j]?.map fun d=>match memN (i+j) wr && !(Nat.beq (i+j) t || ownsAt fr0 (i+j)) with
  |true=>keepQ t d
  |false=>d
 |[],i,j=>by simp [keepL]
 |d::r,i,0=>by simp [keepL]
 |d::r,i,j+1=>by
  rw [keepL,List.getElem?_cons_succ,List.getElem?_cons_succ,keepL_at (l:=r),show i+1+j=i+(j+1) by omega]
theorem keepL_len {t:Nat} {wr:List Nat} {fr0:List D}:∀ {l:List D} {i:Nat},(keepL t wr fr0 i l).length=l.length
 |[],i=>rfl
 |d::r,i=>by simp [keepL,keepL_len (l:=r)]
def newAt (fr0 fr:List D):List Nat→Option Nat
 |[]=>none
 |t::r=>match fr[t]? with
  |some (.obj _)=>match fr0[t]? with
   |some (.obj _)=>newAt fr0 fr r
   |_=>some t
  |_=>newAt fr0 fr r
theorem newAt_some {fr0 fr:List D} {t:Nat}:∀ {wr:List Nat},newAt fr0 fr wr=some t→(∃ x,fr[t]?=some (.obj x))∧∀ c',fr0[t]? ≠ some (.obj c')
 |[],h=>by cases h
 |u::r,h=>by
  unfold newAt at h
  split at h
  ·rename_i x hx
   split at h
   ·exact newAt_some h
   ·rename_i hno
    cases h
    exact ⟨⟨x,hx⟩,fun c' e=>hno c' e⟩
  ·exact newAt_some h
theorem newAt_none {fr0 fr:List D}:∀ {wr:List Nat},newAt fr0 fr wr=none→∀ t ∈ wr,∀ x,fr[t]?=some (.obj x)→∃ c',fr0[t]?=some (.obj c')
 |[],_,t,ht,_,_=>by cases ht
 |u::r,h,t,ht,x,hx=>by
  unfold newAt at h
  split at h
  ·rename_i y hy
   split at h
   ·rename_i c' hc'
    rcases List.mem_cons.1 ht with rfl|ht
    ·exact ⟨c',hc'⟩
    ·exact newAt_none h t ht x hx
   ·cases h
  ·rename_i hno
   rcases List.mem_cons.1 ht with rfl|ht
   ·exact absurd hx (hno x)
   ·exact newAt_none h t ht x hx
def wrOf (ops:List Oper):List Nat:=ops.filterMap (·.dst)
theorem QInv.nob {fr0 fr:List D} {pre:List Oper} (h:QInv S l.toArray c cs n0 a0 fr0 pre fs a fr) (hn:newAt fr0 fr (wrOf pre)=none):∀ (i:Nat) (x:List D),fr[i]?=some (D.obj x)→∃ c':List D,fr0[i]?=some (D.obj c'):=fun i x hx=>by
 rcases h.slot' i _ hx with ⟨_,h2⟩|⟨⟨k,p,u,k1,k2,_⟩,_⟩
 ·exact ⟨x,h2⟩
 ·exact newAt_none hn i (List.mem_filterMap.2 ⟨p,gMem k1,k2⟩) x hx
theorem keepQ_cases (t:Nat) (d:D):keepQ t d=.any∨(keepQ t d=d∧((∃ u o,d=.ref u o∧u ≠ t)∨(∃ u,d=.al u∧u ≠ t)∨(∃ c e,d=.gd c e∧e.flat=true)∨d.flat=true)):=by
 have flat:∀ {e:D},keepQ t e=(match e.flat with|true=>e|false=>.any)→keepQ t e=.any∨(keepQ t e=e∧((∃ u o,e=.ref u o∧u ≠ t)∨(∃ u,e=.al u∧u ≠ t)∨(∃ c x,e=.gd c x∧x.flat=true)∨e.flat=true)):=fun {e} h=>by
  cases hf:e.flat with
  |true=>rw [hf] at h;exact .inr ⟨h,.inr (.inr (.inr rfl))⟩
  |false=>rw [hf] at h;exact .inl h
 cases d with
 |ref u o=>
  cases hb:Nat.beq u t with
  |true=>exact .inl (by simp only [keepQ,hb])
  |false=>exact .inr ⟨by simp only [keepQ,hb],.inl ⟨u,o,rfl,fun e=>by subst e;simp at hb⟩⟩
 |al u=>
  cases hb:Nat.beq u t with
  |true=>exact .inl (by simp only [keepQ,hb])
  |false=>exact .inr ⟨by simp only [keepQ,hb],.inr (.inl ⟨u,rfl,fun e=>by subst e;simp at hb⟩)⟩
 |gd c e=>
  cases hb:e.flat with
  |true=>exact .inr ⟨by simp only [keepQ,hb],.inr (.inr (.inl ⟨c,e,rfl,hb⟩))⟩
  |false=>exact .inl (by simp only [keepQ,hb])
 |_=>exact flat rfl
theorem QInv.frN (B2:Option (Nat × Place)) {frF fr0 fr:List D} {pre:List Oper} (h:QInv S l.toArray c cs w0.heap.size a0 fr0 pre fs a fr) (hC:QC S l c cs a0 frF fr0 w0) (hcs:frF[cs]?=none) (hR:Rw S cs w0 w) (hf:∀ f ∈ fs,f w) {t:Nat} (ht:newAt fr0 fr (wrOf pre)=some t) (ht0:t ≠ 0)
  (hB:∀ b2 q2,B2=some (b2,q2)→w0.heap.size≤b2∧∃ cur e,w.heap[b2]?=some (.cells cur e (0,0))∧∀ (zc:List Value),fr[t]?=some (.obj (zeroD zc))→cur ≠ zc.toArray):
  ∃ S',Trans S w0 S' w∧FR S' w a (keepL t (wrOf pre) fr0 0 fr)∧∀ b2 q2,B2=some (b2,q2)→S'.own b2=some (q2,0):=by
 have hF:=hC.hF
 have h00:fr0=frF:=by rw [hC.hX,List.set_eq_of_length_le (List.getElem?_eq_none_iff.1 hcs)]
 obtain ⟨⟨x,hx⟩,hno⟩:=newAt_some ht
 obtain ⟨b,e,zc,v,hv,rfl,hb0,hbo,hbh,rfl,hz⟩:∃ (b:Nat) (e:TypeId) (zc:List Value) (v:Value),a.tmps[t]?=some v∧v=.pointer (some ⟨b,0,none⟩)∧w0.heap.size≤b∧(S.drop cs).own b=none∧w.heap[b]?=some (.cells zc.toArray e (0,0))∧x=zeroD zc∧zc.all Value.oneCell'=true:=by
  rcases h.slot' t _ hx with ⟨_,h2⟩|⟨⟨k,p,v,k1,k2,k3,k4,k5⟩,_⟩
  ·exact absurd h2 (hno x)
  ·obtain ⟨b,e,zc,g1,g2,g3,g4,g5,g6⟩:=(hf _ (gMem k4)).2
   refine ⟨b,e,zc,v,k3,g1,g2,?_,g4,g5,g6⟩
   cases hb:(S.drop cs).own b with
   |none=>rfl
   |some y=>have:=hF.wf b y (drop_some hb).1;omega
 have t0:=hR.to (S':=S.drop cs) (.inr rfl)
 obtain ⟨own2,ho2⟩:∃ f:Nat→Option (Place × Nat),f=fun k=>B2.elim ((S.drop cs).own k) fun y=>if k=y.1 then some (y.2,0) else (S.drop cs).own k:=⟨_,rfl⟩
 have hold2:∀ k,k < w0.heap.size→own2 k=(S.drop cs).own k:=fun k hk=>by
  rw [ho2]
  cases hB2:B2 with
  |none=>rfl
  |some y=>
   have:=(hB y.1 y.2 (by rw [hB2])).1
   simp only [Option.elim]
   rw [if_neg (by omega)]
 have hlt2:∀ k y,own2 k=some y→(S.drop cs).own k=some y∨k < w.heap.size:=fun k y hy=>by
  rw [ho2] at hy
  cases hB2:B2 with
  |none=>rw [hB2] at hy;exact .inl hy
  |some y2=>
   rw [hB2] at hy
   simp only [Option.elim] at hy
   split at hy
   ·rename_i hk
    obtain ⟨_,cur,e',h3,_⟩:=hB y2.1 y2.2 (by rw [hB2])
    exact .inr (by rw [hk];exact (Array.getElem?_eq_some_iff.1 h3).1)
   ·exact .inl hy
 let S':Sig:=⟨fun k=>if k=b then some (.slot t,0) else own2 k,fun r=>if r=t+2 then b else S.loc r⟩
 have hold:∀ k,k < w0.heap.size→S'.own k=(S.drop cs).own k:=fun k hk=>(if_neg (by omega)).trans (hold2 k hk)
 have hwd:=hC.wf hR (S':=S.drop cs) (.inr rfl)
 have hblt:b < w.heap.size:=(Array.getElem?_eq_some_iff.1 hbh).1
 have hwf:WF S' w:=⟨fun k y hy=>by
  by_cases hkb:k=b
  ·subst hkb;exact hblt
  ·have:own2 k=some y:=by simpa [S',hkb] using hy
   rcases hlt2 k y this with h1|h1
   ·exact hwd k y h1
   ·exact h1,hF.wf.gl.keep fun k hk hn=>by
  rw [hold k hk]
  exact t0.free k hk hn⟩
 have htr:Trans S w0 S' w:=⟨t0.os,t0.tape,t0.output,t0.size,fun k hk hn=>by rw [hold k hk];exact t0.free k hk hn,fun k p q hk hs hd=>by rw [hold k hk];exact t0.foreign k p q hk hs hd,fun k p q hk hs=>by rw [hold k hk];exact t0.held k p q hk hs,if_neg (by omega)⟩
 have hxt:∀ u c',frF[u]?=some (.obj c')→u ≠ t:=fun u c' hu e=>by subst e;rw [← h00] at hu;exact hno c' hu
 have hlc:∀ {u:Nat},u ≠ t→S'.loc (u+2)=S.loc (u+2):=fun hu=>if_neg (by omega)
 have keep:∀ {i:Nat} {v:Value} {d:D},i ≠ t→i ≠ cs→Rep S w0 (.slot i) v d→RefOk frF d→Rep S' w (.slot i) v d:=fun {i v d} hit hic hr hk=>by
  have old:∀ k q m,S.own k=some (q,m)→q.r ≠ cs+2→w.heap[k]?=w0.heap[k]?∧S'.own k=some (q,m):=fun k q m hs hq=>by
   have hm:mine cs (S.own k)=false:=by rw [hs];simp [mine,hq]
   have hk:=hF.wf _ _ hs
   refine ⟨hR.same k hk hm,?_⟩
   rw [hold k hk,drop_own hm,hs]
  refine hr.trans hF.wf htr (by simp [S']) (fun k q m hs hu=>old k q m hs fun e => ?_) (fun _=>hlc hit) fun u hm ho => ?_
  ·have:=hu.1
   simp only [Place.slot] at this
   omega
  ·obtain ⟨c',hc'⟩:=hk u hm
   refine ⟨hlc (hxt u c' hc'),(old _ _ _ ho fun e => ?_).2⟩
   simp only [Place.slot] at e
   have:u=cs:=by omega
   subst this
   rw [hcs] at hc'
   cases hc'
 have hat:∀ i,(keepL t (wrOf pre) fr0 0 fr)[i]?=fr[i]?.map fun d=>match memN i (wrOf pre) && !(Nat.beq i t || ownsAt fr0 i) with
   |true=>keepQ t d
   |false=>d:=fun i=>by rw [keepL_at,Nat.zero_add]
 -- owners stay
 have hown:∀ (u:Nat) (d:D),fr0[u]?=some d→d.owns=true→(keepL t (wrOf pre) fr0 0 fr)[u]?=some d∧a.tmps[u]?=a0.tmps[u]?:=fun u d hd ho=>by
  obtain ⟨g1,g2⟩:=h.own u d hd ho
  refine ⟨?_,g2⟩
  have:ownsAt fr0 u=true:=by simp [ownsAt,hd,ho]
  rw [hat,g1,this]
  simp
 have hrk:∀ d,RefOk frF d→RefOk (keepL t (wrOf pre) fr0 0 fr) d:=fun d hd u hu=>by
  obtain ⟨c',hc'⟩:=hd u hu
  rw [← h00] at hc'
  exact ⟨c',(hown u _ hc' rfl).1⟩
 have fin2:∀ b2 q2,B2=some (b2,q2)→S'.own b2=some (q2,0):=fun b2 q2 hB2=>by
  obtain ⟨_,cur,e',h3,h4⟩:=hB b2 q2 hB2
  have hne:b2 ≠ b:=fun e2=>by
   subst e2
   rw [hbh] at h3
   cases h3
   exact h4 zc hx rfl
  show (if b2=b then _ else own2 b2)=_
  rw [if_neg hne,ho2,hB2]
  simp
 refine ⟨S',htr,⟨hwf,by rw [keepL_len];exact h.size,h.defers,fun i d v' hd hv' => ?_⟩,fin2⟩
 rw [hat] at hd
 cases hfi:fr[i]? with
 |none=>rw [hfi] at hd;cases hd
 |some d0=>
  rw [hfi] at hd
  simp only [Option.map_some,Option.some.injEq] at hd
  by_cases hit:i=t
  ·subst hit
   rw [show Nat.beq i i=true by simp] at hd
   simp only [Bool.true_or,Bool.not_true,Bool.and_false] at hd
   subst hd
   rw [hx] at hfi
   cases hfi
   rw [hv] at hv'
   cases hv'
   refine SlotRep.of (.obj (by simp [S',Place.slot]) rfl (by simp [S']) hbh (by simp [zeroD]) (fun j y hj => ?_) fun j d y hj hy=>.fz ?_) fun u hu => ?_
   ·have:=Array.mem_of_getElem? hj
    exact List.all_eq_true.1 hz y (by simpa using this)
   ·have hc:=CR.zero (lim:=S'.lim) (w:=w) hz
    exact hc.fz j d y hj (by simpa using hy)
   ·have hc:=CR.zero (lim:=S'.lim) (w:=w) hz
    cases hu with
    |obj hj hm=>exact ((hc.fz _ _ _ hj (List.getElem?_eq_getElem (lt_of_len hc.len hj))).men hm).elim
  ·-- a slot that is as it was
   have left:a.tmps[i]?=a0.tmps[i]?→fr0[i]?=some d0→SlotRep S' w a (keepL t (wrOf pre) fr0 0 fr) i v' d0:=fun h1 h2=>by
    rw [h00] at h2
    have hic:i ≠ cs:=fun e=>by subst e;rw [hcs] at h2;cases h2
    have hs:=hF.slot i d0 v' h2 (h1.symm.trans hv')
    cases d0 with
    |al u=>
     obtain ⟨g1,d',g2,g3,g4⟩:=hs
     rw [← h00] at g2
     obtain ⟨q1,q2⟩:=hown u d' g2 g3
     exact ⟨q2.trans g1,d',q1,g3,g4⟩
    |alc x o=>exact absurd (hC.nonm i _ h2) (fun e=>by cases e)
    |el x o sz k j=>exact absurd (hC.nonm i _ h2) (fun e=>by cases e)
    |es x sz k j=>exact absurd (hC.nonm i _ h2) (fun e=>by cases e)
    |_=>exact ⟨keep hit hic hs.1 hs.2,hrk _ hs.2⟩
   have anyOk:SlotRep S' w a (keepL t (wrOf pre) fr0 0 fr) i v' .any:=SlotRep.of (.fz (.any _)) fun u hu=>by cases hu
   have hcase:d=.any∨(d=d0∧((memN i (wrOf pre)=false∨ownsAt fr0 i=true)∨((∃ u o,d0=.ref u o∧u ≠ t)∨(∃ u,d0=.al u∧u ≠ t)∨(∃ c e,d0=.gd c e∧e.flat=true)∨d0.flat=true))):=by
    split at hd
    ·rcases keepQ_cases t d0 with h1|⟨h1,h2⟩
     ·exact .inl (hd.symm.trans h1)
     ·exact .inr ⟨hd.symm.trans h1,.inr h2⟩
    ·rename_i hm
     refine .inr ⟨hd.symm,.inl ?_⟩
     cases hmm:memN i (wrOf pre) with
     |false=>exact .inl rfl
     |true=>
      right
      have:Nat.beq i t=false:=by
       cases hb:Nat.beq i t with
       |false=>rfl
       |true=>exact absurd (Nat.eq_of_beq_eq_true hb) hit
      rw [hmm,this] at hm
      simpa using hm
   rcases hcase with rfl|⟨rfl,hwhy⟩
   ·exact anyOk
   ·rcases h.slot' i _ hfi with ⟨h1,h2⟩|⟨⟨k,p,u,k1,k2,k3,k4,k5⟩,hnx⟩
    ·exact left h1 h2
    ·obtain rfl:u=v':=Option.some.inj (k3.symm.trans hv')
     have h2:=(hf _ (gMem k4)).2
     have hin:memN i (wrOf pre)=true:=memN_iff.2 (List.mem_filterMap.2 ⟨p,gMem k1,k2⟩)
     rcases hwhy with (hw1|hw1)|hw1
     ·rw [hin] at hw1;cases hw1
     ·unfold ownsAt at hw1
      split at hw1
      ·rename_i d1 hd1
       obtain ⟨q1,q2⟩:=h.own i d1 hd1 hw1
       rw [hfi] at q1
       cases q1
       exact left q2 hd1
      ·cases hw1
     ·rcases hw1 with ⟨y,o,rfl,hyt⟩|⟨y,rfl,hyt⟩|⟨cc,ee,rfl,hfl⟩|hfl
      ·obtain ⟨ds,hds⟩:=(k5:∃ c,fr0[y]?=some (.obj c))
       have hob:=hC.refOwn hR (S':=S.drop cs) (.inr rfl) hds
       simp only at h2
       rw [sg_loc] at h2
       rw [h2]
       have ho:S.own (S.loc (y+2))=some (.slot y,0):=by
        have:=hob.1
        rw [hob.2] at this
        exact (drop_some this).1
       have ho':S'.own (S'.loc (y+2))=some (.slot y,0):=by
        rw [hlc hyt,hold _ (hF.wf _ _ ho)]
        have:=hob.1
        rw [hob.2] at this
        exact this
       rw [← hlc hyt]
       exact ⟨.ref ho',fun z hz=>by cases hz;exact ⟨ds,(hown _ _ hds rfl).1⟩⟩
      ·rcases (k5:AlOk fr0 cs y) with ⟨rfl,e,he⟩|⟨d',g2,g3⟩
       ·rw [h00,hcs] at he;cases he
       ·obtain ⟨q1,q2⟩:=hown y d' g2 g3
        have hg2:=g2
        rw [h00] at hg2
        obtain ⟨v2,hv2,_⟩:=hF.at hg2
        simp only at h2
        rw [tmp_eval hv2] at h2
        subst h2
        refine ⟨q2.trans hv2,d',q1,g3,fun e => ?_⟩
        subst e
        obtain ⟨q3,_⟩:=h.own _ _ g2 g3
        rw [hfi] at q3
        cases q3
        cases g3
      ·have hg:=(Rep.fz (p:=.dead) h2:Rep _ w _ _ (.gd cc ee)).gd_inv
       exact ⟨.fz (.gd (fun hc=>flat_fz (.fz (p:=.dead) (hg.1 hc)) hfl) hg.2),fun z hz=>by cases hz⟩
      ·have hfz:∀ {lim:Nat→Option Nat},Fz lim w u d:=fun {lim}=>by
        cases d with
        |al y=>exact Bool.noConfusion (show false=true from hfl)
        |ref y o=>exact Bool.noConfusion (show false=true from hfl)
        |obj y=>exact Bool.noConfusion (show false=true from hfl)
        |gref c y o=>exact Bool.noConfusion (show false=true from hfl)
        |alc y o=>exact Bool.noConfusion (show false=true from hfl)
        |el y o sz k j=>exact Bool.noConfusion (show false=true from hfl)
        |es y sz k j=>exact Bool.noConfusion (show false=true from hfl)
        |nsl sz n z=>exact Bool.noConfusion (show false=true from hfl)
        |nagg cs' off sz n z=>exact Bool.noConfusion (show false=true from hfl)
        |_=>exact flat_fz (Rep.fz (p:=.dead) h2) hfl
       have hmen:∀ z,¬ Men z d:=fun z hz=>((hfz (lim:=S.lim)).men hz).elim
       refine SlotRep.of (.fz hfz) fun z hz=>(hmen z hz).elim
theorem hand_rw (hw:WF S w) (ht:Trans (S.hand u) w S' w'):Rw S u w w':=by
 refine ⟨ht.os,ht.tape,ht.output,ht.size,fun b hb hn=>(hand_old ht hb hn).1,fun b q l hs hq => ?_⟩
 exact (ht.held b ⟨2,q.path⟩ l (hw b _ hs) (by simp [Sig.hand,hs,hq])).1
theorem QC.rw_cell {frF fr0:List D} (h:QC S l c cs a0 frF fr0 w0) (hx:Rw S cs w w') {ds:List D} {v:Value} (hd:fr0[u]?=some (.obj ds)) (hc:w.cell? ⟨S.loc (u+2),off,none⟩=some v):w'.cell? ⟨S.loc (u+2),off,none⟩=some v:=by
 have huc:u ≠ cs:=fun e=>by subst e;have:=h.at_cs hd;cases this
 have hob:=(h.refOwn (Rw.ext (Ext.refl w0)) (.inl rfl) hd).1
 rw [World.cell?_of_block (a:=⟨S.loc (u+2),off,none⟩) (w:=w) (hx.same _ (cell_lt hc) (by rw [hob];simp [mine,Place.slot];omega))]
 exact hc
theorem writeQ_sound {ci:Nat} {frF fr0 fr:List D} {pre:List Oper} {d0:D} {K:D→Prop} (hC:QC S l ci cs a0 frF fr0 w0) (hpre:∀ (k:Nat) (p:Oper),pre[k]?=some p→l[k]?=some p) (ho:l[pre.length]?=some o) (hic:pre.length=ci)
  (hd0:∀ m sz rows,d0=.sl (m+1) sz rows→frF[cs]?=some d0) (hs:writeQ P cs d0 fr0 fr o K):∃ d,K d∧NmOk fr0 cs d∧∀ (fs:List (World→Prop)) (a:Act),QInv S l.toArray ci cs n0 a0 fr0 pre fs a fr→∀ w,Ext w0 w→(∀ e ∈ o.after.toList,Region.binds .any e=true→(fs.getD e.on (fun _=>True)) w)→StepG P l.toArray Q (Rw S cs) o (factSpec (S.drop cs) n0 a0 d) a w:=by
 have hops:∀ x ∈ o.op.operands.toList,∀ t,x=.tmp t→t ∈ o.looksAt l.toArray:=fun x hx t e=>by
  subst e
  exact List.mem_append_left _ (List.mem_filterMap.2 ⟨.tmp t,hx,rfl⟩)
 unfold writeQ at hs
 split at hs
 ·exact hs.elim
 ·rename_i hg
  split at hs
  ·rename_i c hop
   split at hs
   ·rename_i f hcal
    split at hs
    ·rename_i t xs hargs
     split at hs
     ·rename_i hroot
      split at hs
      ·rename_i m sz rows
       have hdF:=hd0 m sz rows rfl
       obtain ⟨d,out,⟨d1,ds',rfl,hl,hp,hsem⟩,hput⟩:=hs.h
       split at hput
       ·rename_i hq
        rw [force_eq] at hput
        refine ⟨_,hput,frzQ_nm hq,fun fs a hI w hx hf => ?_⟩
        have hopr:∀ y,y ∈ Operand.tmp t::xs→∀ t',y=.tmp t'→t' ∈ o.looksAt l.toArray:=fun y hy=>hops y (by
         rw [hop]
         simp only [Op.operands,Call.operands]
         have:y ∈ c.args.toList:=by rw [hargs];exact hy
         simp
         right
         simpa using this)
        have hev:a.eval (.tmp t)=a0.eval (.tmp cs):=by
         simp only [Bool.or_eq_true] at hroot
         rcases hroot with hb|hb
         ·rw [Nat.eq_of_beq_eq_true hb]
          simp [Act.eval,Array.getD_eq_getD_getElem?,hI.keep]
         ·split at hb
          ·rename_i u hd
           obtain rfl:=Nat.eq_of_beq_eq_true hb
           exact hI.evAl hC hpre ho (hopr _ (by simp) t rfl) hd hf
          ·cases hb
        have hw:=(PT.ext' hC.hF.wf hx).wf
        have hrep:Rep S w (.slot cs) (a.eval (.tmp t)) (.sl (m+1) sz rows):=by
         obtain ⟨v,hv,hsl⟩:=hC.hF.at hdF
         rw [hev,tmp_eval hv]
         exact (PT.ext' hC.hF.wf hx).rep hC.hF.wf hsl.1
        unfold StepG
        rw [if_pos (by unfold Region.wanted;rw [hg])]
        refine fun K' hK=>.inl ?_
        obtain ⟨dst,op,ty,pos,after,guard⟩:=o
        obtain ⟨callee,args,argTypes⟩:=c
        simp only at hop hcal hargs
        subst hop;subst hcal
        obtain rfl:args=(.tmp t::xs).toArray:=Array.ext' hargs
        refine own_call0 (ρ:=evalQ fr0 fr) hw rfl hrep (fun y hy=>hI.eval hC hpre ho (Rw.ext hx) (.inl rfl) (fun e he hb hlt=>absurd hic (late_dep hC.hlate (by simpa using ho) he hb hlt).2) hf (hopr y (by simp [hy]))) hl hp hsem fun v S' w' hw' ht hrep' hout => ?_
        have hrw:=hand_rw hw ht
        refine hK (0,0,v) w' ⟨drop_wf (hrw.wf hw),?_⟩ hrw
        have hz:=unhand hw ht hrep' hq
        have hn:=frzQ_noal hq
        have hn':=frzQ_noref hq
        generalize frzQ d=e at hz hn hn' ⊢
        cases e with
        |al u=>exact absurd rfl (hn u)
        |ref u off=>exact absurd rfl (hn' u off)
        |obj x=>cases hz
        |gref c u off=>cases hz
        |alc u off=>cases hz
        |el u off sz k j=>cases hz
        |nsl sz n z=>cases hz
        |nagg cs' off sz n z=>cases hz
        |_=>exact hz
       ·exact hput.elim
      ·exact hs.elim
     ·exact hs.elim
    ·exact hs.elim
   ·exact hs.elim
  ·exact hs.elim
theorem vcQ_sound (hT:TOk P T Z) {S:Sig} {ci cs n0:Nat} {a0:Act} {frF fr0:List D} {l:List Oper} {w0:World} {d0:D} {Q:Exit→Act→World→Prop} {K:List D→Prop} (hC:QC S l ci cs a0 frF fr0 w0) (hd0:∀ m sz rows,d0=.sl (m+1) sz rows→frF[cs]?=some d0)
  (hn0:n0≤w0.heap.size) {L:List Oper} (hQ:∀ fr fs a w,K fr→Rw S cs w0 w→QInv S l.toArray ci cs n0 a0 fr0 L fs a fr→(∀ f ∈ fs,f w)→Q .normal a w):
  ∀ (r pre:List Oper) (fr:List D),pre++r=L→(∀ (k:Nat) (p:Oper),(pre++r)[k]?=some p→l[k]?=some p)→vcQ P T Z l ci cs d0 fr0 pre.length r fr K→∃ ss,∀ (fs:List (World→Prop)) (a:Act),QInv S l.toArray ci cs n0 a0 fr0 pre fs a fr→ParW P l.toArray Q (ways S l.toArray ci cs) w0 pre.length r ss fs a
 | [],pre,fr,hL,_,hs=>⟨[],fun fs a hI=>fun w hx hf=>by
   rw [List.append_nil] at hL
   subst hL
   exact hQ fr fs a w hs hx hI hf⟩
 |o::r,pre,fr,hL,hpre,hs=>by
  have hpre':∀ (k:Nat) (p:Oper),pre[k]?=some p→l[k]?=some p:=fun k p hk=>hpre k p (by rw [List.getElem?_append_left (gLt hk)];exact hk)
  have ho:l[pre.length]?=some o:=hpre _ o (by simp)
  have fin:∀ {d:D},(match o.dst with
   |none=>vcQ P T Z l ci cs d0 fr0 (pre.length+1) r fr K
   |some t=>match fr[t]? with
    |some d1=>match d1.owns || Nat.beq t cs with
     |false=>forceL (fr.set t d) fun fr=>vcQ P T Z l ci cs d0 fr0 (pre.length+1) r fr K
     |true=>False
    | none=>False)→NmOk fr0 cs d→
    (∀ (fs:List (World→Prop)) (a:Act),QInv S l.toArray ci cs n0 a0 fr0 pre fs a fr→∀ w,(ways S l.toArray ci cs).sees pre.length w0 w→(∀ e ∈ o.after.toList,Region.binds .any e=true→(fs.getD e.on (fun _=>True)) w)→StepG P l.toArray Q ((ways S l.toArray ci cs).does pre.length) o (factSpec (sg S l.toArray ci cs pre.length) n0 a0 d) a w)→
    ∃ ss,∀ (fs:List (World→Prop)) (a:Act),QInv S l.toArray ci cs n0 a0 fr0 pre fs a fr→ParW P l.toArray Q (ways S l.toArray ci cs) w0 pre.length (o::r) ss fs a:=by
   intro d hK hal hstep
   have rest:∀ {fr':List D},((o.dst=none∧fr'=fr)∨∃ t d0,o.dst=some t∧fr[t]?=some d0∧d0.owns=false∧t ≠ cs∧fr'=fr.set t d)→vcQ P T Z l ci cs d0 fr0 (pre.length+1) r fr' K→∃ ss,∀ (fs:List (World→Prop)) (a:Act),QInv S l.toArray ci cs n0 a0 fr0 pre fs a fr→ParW P l.toArray Q (ways S l.toArray ci cs) w0 pre.length (o::r) ss fs a:=by
    intro fr' hfr hv
    obtain ⟨ss,hss⟩:=vcQ_sound hT hC hd0 hn0 hQ r (pre ++ [o]) fr' (by simpa using hL) (fun k p hk=>hpre k p (by simpa using hk)) (by simpa using hv)
    refine ⟨factSpec (sg S l.toArray ci cs pre.length) n0 a0 d::ss,fun fs a hI=>⟨fun w hx hf=>hstep fs a hI w hx hf,fun hlate u w w' hx hf => ?_,fun u => ?_⟩⟩
    ·have e:sg S l.toArray ci cs pre.length=S:=by
      unfold sg
      have hl:lateOf l.toArray ci pre.length=false:=hlate
      rw [hl]
      rfl
     simp only [factSpec] at hf ⊢
     rw [e] at hf ⊢
     have hx':Rw S cs w w':=hx
     refine ⟨hx'.wf hf.1,?_⟩
     have h2:=hf.2
     cases d with
     |al u=>exact h2
     |ref u off=>exact h2
     |gref c u off=>exact h2
     |obj x=>
      obtain ⟨b,e,zc,g1,g2,g3,g4,g5⟩:=h2
      exact ⟨b,e,zc,g1,g2,g3,(hx'.same b (Array.getElem?_eq_some_iff.1 g4).1 (by rw [g3];rfl)).trans g4,g5⟩
     |alc y off=>
      obtain ⟨ds,hds⟩:=(hal:∃ c,fr0[y]?=some (.obj c))
      exact hC.rw_cell hx' hds h2
     |el y off sz k j=>
      obtain ⟨ds,hds⟩:=(hal:∃ c,fr0[y]?=some (.obj c))
      obtain ⟨s,h3,h4⟩:=h2
      exact ⟨s,hC.rw_cell hx' hds h3,h4⟩
     |nsl sz n z=>exact NewS.keep (fun b hb hn=>hx'.same b hb (by rw [hn];rfl)) h2
     |nagg cs' off sz n z=>exact NewA.keep (fun b hb hn=>hx'.same b hb (by rw [hn];rfl)) (fun h=>h.trans (hx'.to (.inl rfl))) h2
     |_=>exact h2.trans (hx'.to (.inl rfl))
    ·have:=hss _ _ (hI.step (v:=u.2.2) hal hfr)
     rw [List.length_append] at this
     exact this
   split at hK
   ·rename_i hn
    exact rest (.inl ⟨hn,rfl⟩) hK
   ·rename_i t ht
    split at hK
    ·rename_i d1 h0
     split at hK
     ·rename_i hd1
      simp only [Bool.or_eq_false_iff] at hd1
      rw [forceL_eq] at hK
      exact rest (.inr ⟨t,d1,ht,h0,hd1.1,fun e=>by subst e;simp at hd1,rfl⟩) hK
     ·exact hK.elim
    ·exact hK.elim
  unfold vcQ at hs
  simp only at hs
  split at hs
  ·rename_i hic
   have hne:pre.length ≠ ci:=fun e=>by rw [e] at hic;simp at hic
   obtain ⟨d,hK,hal,hstep⟩:=stepQ_sound hT hC hpre' ho (Q:=Q) hn0 hs
   refine fin hK hal fun fs a hI w hx hf => ?_
   have e1:(ways S l.toArray ci cs).sees pre.length=Rw S cs:=if_neg hne
   have e2:(ways S l.toArray ci cs).does pre.length=Ext:=if_neg hne
   rw [e1] at hx
   rw [e2]
   exact hstep fs a hI w hx hf
  ·rename_i hic
   have he:=Nat.eq_of_beq_eq_true hic
   obtain ⟨d,hK,hal,hstep⟩:=writeQ_sound hC hpre' ho he hd0 (Q:=Q) hs
   refine fin hK hal fun fs a hI w hx hf => ?_
   have e1:(ways S l.toArray ci cs).sees pre.length=Ext:=if_pos he
   have e2:(ways S l.toArray ci cs).does pre.length=Rw S cs:=if_pos he
   have e3:sg S l.toArray ci cs pre.length=S.drop cs:=by
    unfold sg lateOf
    rw [he]
    simp
   rw [e1] at hx
   rw [e2,e3]
   exact hstep fs a hI w hx hf
end
end Go.Proofs.YtindehjiaknokaaGreatDoor
namespace Go.Proofs.YtindehjiaknokaaGreatDoor
set_option linter.unusedSimpArgs false
set_option linter.unusedVariables false
open Go.RowKit
variable {ops:List Oper}
def bitI (E:List Bool) (i:Nat):Bool:=E.getD i false
def readyI (ops:List Oper) (E:List Bool):List Nat:=(List.range ops.length).filter fun i => !(bitI E i) && (match ops[i]? with
 |some o=>o.after.toList.all fun e => !(Region.binds .any e) || bitI E e.on
 | none=>false)
def sameB:List Bool→List Bool→Bool
 |[],[]=>true
 |true::r,true::s=>sameB r s
 |false::r,false::s=>sameB r s
 |_,_=>false
theorem sameB_eq:∀ {a b:List Bool},sameB a b=true→a=b
 |[],[],_=>rfl
 |true::r,true::s,h=>by rw [sameB_eq (a:=r) (b:=s) h]
 |false::r,false::s,h=>by rw [sameB_eq (a:=r) (b:=s) h]
 |[],_::_,h=>by cases h
 |true::_,[],h=>by cases h
 |false::_,[],h=>by cases h
 |true::_,false::_,h=>by cases h
 |false::_,true::_,h=>by cases h
def findI:List (List Bool)→List Bool→Nat→Option Nat
 |[],_,_=>none
 |x::r,E,k=>match sameB x E with
  |true=>some k
  |false=>findI r E (k+1)
theorem findI_at:∀ {L:List (List Bool)} {E:List Bool} {k p:Nat},findI L E k=some p→k≤p∧L[p - k]?=some E
 |[],_,_,_,h=>by cases h
 |x::r,E,k,p,h=>by
  simp only [findI] at h
  split at h
  ·rename_i hx
   cases h
   have:=sameB_eq hx
   subst this
   exact ⟨Nat.le_refl _,by simp⟩
  ·obtain ⟨h1,h2⟩:=findI_at h
   refine ⟨by omega,?_⟩
   rw [show p - k=(p - (k+1))+1 by omega,List.getElem?_cons_succ]
   exact h2
def okI (ops:List Oper) (n:Nat) (L:List (List Bool)):Bool:=
 (match L with
  |E::_=>sameB E (ops.map fun _=>false)
  | _=>false) &&
 (L.all fun E=>Nat.beq E.length ops.length && (match readyI ops E with
  |[]=>sameB E (L.getLastD []) && E.all (fun b=>b)
  | _ => !(E.all fun b=>b))) &&
 ((match findI L (L.getLastD []) 0 with
  |some p=>Nat.beq (p+1) L.length
  |none=>false) && (ops.all fun o=>match o.dst with
  |some d=>Nat.blt d n
  | none=>true))
structure EqF (a b:List D):Prop where
 h:a=b
structure AndI (p q:Prop):Prop where
 l:p
 r:q
structure ExE (F:List D→Prop):Prop where
 h:∃ f,F f
theorem ExE.go {F:List D→Prop} {f:List D} (h:F f):ExE F:=⟨f,h⟩
def ExF:Nat→(List (List D)→Prop)→Prop
 |0,K=>K []
 |n+1,K=>ExE fun f=>ExF n fun l=>K (f::l)
theorem ExF_ok:∀ {n:Nat} {K:List (List D)→Prop},ExF n K→∃ l:List (List D),l.length=n∧K l
 |0,K,h=>⟨[],rfl,h⟩
 |n+1,K,h=>by
  obtain ⟨f,h⟩:=h.h
  obtain ⟨l,hl,hk⟩:=ExF_ok h
  exact ⟨f::l,by simp [hl],hk⟩
def stepG (P:Program) (T:Nat→Option TI) (Z:Nat→Option (List Value)) (M:Nat→Bool) (ops:List Oper) (o:Oper) (fr:List D) (K:List D→Prop):Prop:=
 match o.guard with
 |none=>stepN P T Z M o fr K
 |some (j,want)=>match condOf ops fr j want with
  |some c=>forceL (prepG o fr) fun fr=>gstepD P T Z o c fr K
  |none=>False
def stepsAt (P:Program) (T:Nat→Option TI) (Z:Nat→Option (List Value)) (M:Nat→Bool) (ops:List Oper) (L:List (List Bool)) (F:List (List D)) (fr:List D) (E:List Bool):List Nat→Prop
 |[]=>True
 | i::r=>AndI (match ops[i]? with
  |some o=>match findI L (E.set i true) 0 with
   |some p=>match F[p]? with
    |some g=>stepG P T Z M ops o fr fun fr'=>EqF fr' g
    |none=>False
   |none=>False
  | none=>False) (stepsAt P T Z M ops L F fr E r)
def stepsI (P:Program) (T:Nat→Option TI) (Z:Nat→Option (List Value)) (M:Nat→Bool) (ops:List Oper) (L:List (List Bool)) (F:List (List D)):List (List Bool)→List (List D)→Prop
 |[],[]=>True
 |E::Ls,fr::Fs=>AndI (stepsAt P T Z M ops L F fr E (readyI ops E)) (stepsI P T Z M ops L F Ls Fs)
 |_,_=>False
structure DrawI (ops:List Oper) (n:Nat) (F:List (List Bool)→Prop):Prop where
 h:∃ L,okI ops n L=true∧F L
theorem DrawI.go {n:Nat} {F:List (List Bool)→Prop} (L:List (List Bool)) (h1:okI ops n L=true) (h2:F L):DrawI ops n F:=⟨L,h1,h2⟩
def vcI (P:Program) (T:Nat→Option TI) (Z:Nat→Option (List Value)) (M:Nat→Bool) (ops:List Oper) (fr:List D) (K:List D→Prop):Prop:=
 DrawI ops fr.length fun L=>ExF (L.length - 1) fun Fs=>AndI (stepsI P T Z M ops L (fr::Fs) L (fr::Fs)) (K ((fr::Fs).getLastD []))
section
variable {P:Program} {T:Nat→Option TI} {Z:Nat→Option (List Value)} {M:Nat→Bool}
theorem stepsAt_at {ops:List Oper} {L:List (List Bool)} {F:List (List D)} {fr:List D} {E:List Bool}:∀ {is:List Nat},stepsAt P T Z M ops L F fr E is→∀ i ∈ is,∃ (o:Oper) (p:Nat) (g:List D),ops[i]?=some o∧findI L (E.set i true) 0=some p∧F[p]?=some g∧stepG P T Z M ops o fr fun fr'=>EqF fr' g
 |[],_,i,hi=>by cases hi
 |k::r,h,i,hi=>by
  rcases List.mem_cons.1 hi with rfl|hi
  ·have h1:=h.l
   split at h1
   ·rename_i o ho
    split at h1
    ·rename_i p hp
     split at h1
     ·rename_i g hg
      exact ⟨o,p,g,ho,hp,hg,h1⟩
     ·exact h1.elim
    ·exact h1.elim
   ·exact h1.elim
  ·exact stepsAt_at h.r i hi
theorem stepsI_at {ops:List Oper} {L:List (List Bool)} {F:List (List D)}:∀ {Ls:List (List Bool)} {Fs:List (List D)},stepsI P T Z M ops L F Ls Fs→Ls.length=Fs.length∧∀ (p:Nat) (E:List Bool) (fr:List D),Ls[p]?=some E→Fs[p]?=some fr→stepsAt P T Z M ops L F fr E (readyI ops E)
 |[],[],_=>⟨rfl,fun p E fr h=>by simp at h⟩
 |E::Ls,fr::Fs,h=>by
  obtain ⟨h1,h2⟩:=stepsI_at h.r
  refine ⟨by simp [h1],fun p E' fr' hE hF => ?_⟩
  cases p with
  |zero=>cases hE;cases hF;exact h.l
  |succ p=>exact h2 p E' fr' (by simpa using hE) (by simpa using hF)
 |[],_::_,h=>h.elim
 |_::_,[],h=>h.elim
theorem vcI_sound (hT:TOk P T Z) (hm:P.follows .mixedOrders=true) {id:Nat} {l:List Oper} {fr:List D} {K:List D→Prop} (h:vcI P T Z M l fr K) {S:Sig} {w:World} {a:Act} (hF:FR S w a fr) {Q:Exit→Act→World→Prop}
  (hK:∀ fr' S' w' a',K fr'→Trans S w S' w'→FR S' w' a' fr'→Q .normal a' w'):(Code.region id l.toArray true).wp P Q a w:=by
 obtain ⟨L,hok,h⟩:=h.h
 obtain ⟨Fs,hFl,hst,hk⟩:=ExF_ok h
 simp only [okI,Bool.and_eq_true] at hok
 obtain ⟨⟨h0,hall⟩,hlast,hops⟩:=hok
 obtain ⟨hlen,hsteps⟩:=stepsI_at hst
 refine wp_region_noPanic (wp_region_any hm ?_)
 have hE:∀ p E,L[p]?=some E→E.length=l.length∧((readyI l E = []∧E=L.getLastD []∧∀ j,j < l.length→bitI E j=true)∨(readyI l E ≠ []∧∃ j,j < l.length∧bitI E j=false)):=fun p E hp=>by
  have:=List.all_eq_true.1 hall E (gMem hp)
  simp only [Bool.and_eq_true] at this
  have hl:=Nat.eq_of_beq_eq_true this.1
  refine ⟨hl,?_⟩
  have h2:=this.2
  split at h2
  ·rename_i hr
   simp only [Bool.and_eq_true] at h2
   refine .inl ⟨hr,sameB_eq h2.1,fun j hj => ?_⟩
   have hjl:j < E.length:=by omega
   have:=List.all_eq_true.1 h2.2 E[j] (List.getElem_mem hjl)
   simp only [bitI,List.getD_eq_getElem?_getD,List.getElem?_eq_getElem hjl,Option.getD_some]
   exact this
  ·rename_i hr
   refine .inr ⟨hr,?_⟩
   simp only [Bool.not_eq_true',List.all_eq_false] at h2
   obtain ⟨b,hb,hbf⟩:=h2
   obtain ⟨j,hj,rfl⟩:=List.mem_iff_getElem.1 hb
   refine ⟨j,by omega,?_⟩
   simp only [bitI,List.getD_eq_getElem?_getD,List.getElem?_eq_getElem hj,Option.getD_some]
   simpa using hbf
 -- whatever came: the rest goes well
 have key:∀ (fuel p:Nat) (E:List Bool) (g:List D),findI L E 0=some p→(fr::Fs)[p]?=some g→∀ (listed:Array Bool) (S1:Sig) (w1:World) (b:Act),listed.size=l.length→(∀ j,j < l.length→listed.getD j false=bitI E j)→l.length≤fuel+listed.toList.countP (fun x=>x)→FR S1 w1 b g→Trans S w S1 w1→
   wpAny P .any l.toArray (NoPanic Q) fuel listed b w1:=by
  have hready:∀ (E:List Bool) (listed:Array Bool),listed.size=l.length→(∀ j,j < l.length→listed.getD j false=bitI E j)→E.length=l.length→∀ i,i ∈ Region.ready .any l.toArray listed↔i ∈ readyI l E:=fun E listed hsz hbit hEl i=>by
   have hb:∀ k,listed.getD k false=bitI E k:=fun k=>by
    rcases Nat.lt_or_ge k l.length with hk|hk
    ·exact hbit k hk
    ·have h1:¬ k < listed.size:=by omega
     have h2:E[k]?=none:=List.getElem?_eq_none (by omega)
     simp [bitI,h1,List.getD_eq_getElem?_getD,h2]
   rw [mem_ready,readyI,List.mem_filter,List.mem_range]
   simp only [Bool.and_eq_true,Bool.not_eq_true']
   constructor
   ·rintro ⟨g0,o,ho,hal⟩
    have ho':l[i]?=some o:=by simpa using ho
    have hil:=(List.getElem?_eq_some_iff.1 ho').1
    refine ⟨hil,?_,?_⟩
    ·rw [← hb]
     have:i < listed.size:=by omega
     simp [this] at g0 ⊢
     exact g0
    ·rw [ho']
     simp only [List.all_eq_true,Bool.or_eq_true,Bool.not_eq_true']
     intro e he
     cases hbd:Region.binds .any e with
     |false=>exact .inl rfl
     |true=>right;rw [← hb];exact hal e (by simpa using he) hbd
   ·rintro ⟨hil,g0,g1⟩
    rw [← hb] at g0
    have hsi:i < listed.size:=by omega
    have ho':l[i]?=some l[i]:=List.getElem?_eq_getElem hil
    rw [ho'] at g1
    simp only [List.all_eq_true,Bool.or_eq_true,Bool.not_eq_true'] at g1
    refine ⟨by simp [hsi] at g0 ⊢;exact g0,l[i],by simp [hil],fun e he hbd => ?_⟩
    rcases g1 e (by simpa using he) with h1|h1
    ·rw [hbd] at h1;cases h1
    ·rw [hb];exact h1
  have fin:∀ (p:Nat) (E:List Bool) (g:List D),findI L E 0=some p→(fr::Fs)[p]?=some g→readyI l E = []→∀ (S1:Sig) (w1:World) (b:Act),FR S1 w1 b g→Trans S w S1 w1→NoPanic Q .normal b w1:=fun p E g hp hg hr S1 w1 b hf ht=>by
   have hpE:=(findI_at hp).2
   rw [Nat.sub_zero] at hpE
   rcases (hE p E hpE).2 with ⟨_,rfl,_⟩|⟨hn,_⟩
   ·rw [hp] at hlast
    simp only at hlast
    have hpl:=Nat.eq_of_beq_eq_true hlast
    have:(fr::Fs).getLastD []=g:=by
     rw [List.getLastD_eq_getLast?,List.getLast?_eq_getElem?,← hlen]
     rw [show L.length - 1=p by omega,hg]
     rfl
    rw [this] at hk
    exact NoPanic.normal (hK g S1 w1 b hk ht hf)
   ·exact absurd hr hn
  intro fuel
  induction fuel with
  |zero=>
   intro p E g hp hg listed S1 w1 b hsz hbit hfu hf ht
   have hpE:=(findI_at hp).2
   rw [Nat.sub_zero] at hpE
   obtain ⟨hEl,hcase⟩:=hE p E hpE
   have hall:∀ j,j < l.length→bitI E j=true:=by
    intro j hj
    rw [← hbit j hj]
    have hc:listed.toList.countP (fun x=>x)=listed.toList.length:=by
     have:=List.countP_le_length (p:=fun x=>x) (l:=listed.toList)
     simp only [Array.length_toList] at *
     omega
    have:=List.countP_eq_length.1 hc
    have hjs:j < listed.size:=by omega
    simp [hjs]
    exact this _ (by simp)
   have hr:readyI l E = []:=by
    rcases hcase with ⟨hr,_⟩|⟨_,j,hj,hjf⟩
    ·exact hr
    ·rw [hall j hj] at hjf;cases hjf
   refine ⟨?_,fin p E g hp hg hr S1 w1 b hf ht⟩
   rw [List.eq_nil_iff_forall_not_mem]
   intro i hi
   have:=(hready E listed hsz hbit hEl i).1 hi
   rw [hr] at this
   cases this
  |succ fuel ih=>
   intro p E g hp hg listed S1 w1 b hsz hbit hfu hf ht
   have hpE:=(findI_at hp).2
   rw [Nat.sub_zero] at hpE
   obtain ⟨hEl,hcase⟩:=hE p E hpE
   refine ⟨fun hr => ?_,fun i hi => ?_⟩
   ·refine fin p E g hp hg ?_ S1 w1 b hf ht
    rw [List.eq_nil_iff_forall_not_mem]
    intro i hi
    have:=(hready E listed hsz hbit hEl i).2 hi
    rw [hr] at this
    cases this
   ·have hi':=(hready E listed hsz hbit hEl i).1 hi
    obtain ⟨o,p',g',ho,hp',hg',hstep⟩:=stepsAt_at (hsteps p E g hpE hg) i hi'
    have hil:i < l.length:=(gLt ho)
    have cont:∀ (fr':List D) (S':Sig) (w':World) (a':Act),EqF fr' g'→Trans S1 w1 S' w'→FR S' w' a' fr'→wpAny P .any l.toArray (NoPanic Q) fuel (listed.setIfInBounds i true) a' w':=fun fr' S' w' a' he t f => ?_
    ·unfold wpOp
     simp only [show l.toArray[i]?=some o by simpa using ho]
     unfold stepG at hstep
     split at hstep
     ·rename_i hgd
      rw [if_pos (by unfold Region.wanted;rw [hgd])]
      exact .inl (stepN_sound hT hf hstep _ _ cont)
     ·rename_i j want hgd
      split at hstep
      ·rename_i c hc
       have hw:=wanted_cond hf hgd hc
       rw [forceL_eq] at hstep
       obtain ⟨S2,t2,h2⟩:=prepG_sound hf o
       obtain ⟨g1,g0⟩:=gstep_sound hT h2 hstep
       rw [hw]
       cases c with
       |true=>
        rw [if_pos rfl]
        exact .inl (g1 rfl _ _ fun fr' S' w' a' he t f=>cont fr' S' w' a' he (t2.trans t) f)
       |false=>
        rw [if_neg (by simp)]
        obtain ⟨fr',k,f⟩:=g0 rfl
        exact cont fr' S2 w1 _ k t2 f
      ·exact hstep.elim
    obtain ⟨rfl⟩:=he
    have his:i < listed.size:=by omega
    have hnb:bitI E i=false:=by
     have:=(List.mem_filter.1 hi').2
     simp only [Bool.and_eq_true,Bool.not_eq_true'] at this
     exact this.1
    refine ih p' (E.set i true) fr' hp' hg' _ S' w' a' (by simpa using hsz) (fun j hj => ?_) ?_ f (ht.trans t)
    ·by_cases hji:j=i
     ·subst hji
      have:j < E.length:=by omega
      simp [bitI,his,List.getD_eq_getElem?_getD,this]
     ·rw [getD_set_ne false (Ne.symm hji),hbit j hj]
      simp only [bitI,List.getD_eq_getElem?_getD,List.getElem?_set_ne (Ne.symm hji)]
    ·have hc:(listed.setIfInBounds i true).toList.countP (fun x=>x)=listed.toList.countP (fun x=>x)+1:=by
      have hi2:i < listed.toList.length:=by simpa using his
      simp only [Array.toList_setIfInBounds]
      rw [List.countP_set (h:=hi2)]
      have:listed.toList[i]=false:=by
       have:=(hbit i hil).trans hnb
       simp [his] at this
       simpa using this
      rw [this]
      simp
     rw [hc]
     omega
 have hp0:findI L (l.map fun _=>false) 0=some 0:=by
  split at h0
  ·rename_i E r
   simp only [findI,h0]
  ·cases h0
 refine key l.toArray.size 0 (l.map fun _=>false) fr hp0 rfl _ S w.drew a (by simp) (fun j hj => ?_) (by simp) (hF.drop (PT.ext' hF.wf (Ext.drew w))) (PT.ext' hF.wf (Ext.drew w)).trans
 simp [bitI,List.getD_eq_getElem?_getD,hj]
end
end Go.Proofs.YtindehjiaknokaaGreatDoor
namespace Go.Proofs.YtindehjiaknokaaGreatDoor
set_option linter.unusedSimpArgs false
set_option linter.unusedVariables false
open Go.RowKit
variable {K:List D→Prop} {S:Sig} {a:Act} {w:World}
def prepR (ops:List Oper) (heads:List Nat) (fr:List D):List D:=
 ops.foldl (fun fr o=>match o.op with
  |.move x=>match o.dst with
   |some t=>match heads.contains t with
    |true=>fr
    |false=>down1 fr x
   |none=>fr
  | _=>fr) fr
def headsOf (M:Nat→Bool) (ops:List Oper):List Nat:=
 ops.filterMap fun o=>match o.op with
  |.call c=>match c.callee with
   |.builtin .append=>match c.args.toList with
    |.tmp h::_=>some h
    |_=>none
   |.value (.func f)=>match M (1000000+f) with
    |true=>match c.args.toList with
     |.tmp h::_=>some h
     |_=>none
    |false=>none
   |_=>none
  |_=>none
def srcOf (ops:List Oper) (t:Nat):Nat:=match ops with
 |[]=>t
 |o::r=>match o.dst with
  |some d=>match Nat.beq d t with
   |true=>match o.op with
    |.move (.tmp s)=>s
    |_=>t
   |false=>srcOf r t
  |none=>srcOf r t
def writerOf (M:Nat→Bool) (all:List Oper) (fr:List D):List Oper→Nat→Option (Nat × Nat × D)
 |[],_=>none
 |o::r,i=>match o.op with
  |.call c=>match c.callee with
   |.value (.func f)=>match M (1000000+f) with
    |true=>match c.args.toList with
     |.tmp t::_=>match fr[srcOf all t]? with
      |some (.sl (m+1) sz rows)=>some (i,srcOf all t,.sl (m+1) sz rows)
      |some (.al u)=>match fr[u]? with
       |some (.sl (m+1) sz rows)=>some (i,u,.sl (m+1) sz rows)
       |_=>writerOf M all fr r (i+1)
      |_=>writerOf M all fr r (i+1)
     |_=>writerOf M all fr r (i+1)
    |false=>writerOf M all fr r (i+1)
   |_=>writerOf M all fr r (i+1)
  |_=>writerOf M all fr r (i+1)
theorem writerOf_at {M:Nat→Bool} {all:List Oper} {fr:List D} {k cs:Nat} {d:D}:∀ {r:List Oper} {i:Nat},writerOf M all fr r i=some (k,cs,d)→fr[cs]?=some d∧∃ m sz rows,d=.sl (m+1) sz rows
 |[],i,h=>by cases h
 |o::r,i,h=>by
  unfold writerOf at h
  split at h
  ·split at h
   ·split at h
    ·split at h
     ·split at h
      ·cases h;exact ⟨by assumption,_,_,_,rfl⟩
      ·split at h
       ·cases h;exact ⟨by assumption,_,_,_,rfl⟩
       ·exact writerOf_at h
      ·exact writerOf_at h
     ·exact writerOf_at h
    ·exact writerOf_at h
   ·exact writerOf_at h
  ·exact writerOf_at h
def inB (ops:List Oper) (n:Nat):Bool:=ops.all fun o=>match o.dst with
 |some d=>decide (d < n)
 |none=>true
structure DrawR (ops:List Oper) (ok:Nat→Bool) (F:Nat→Prop):Prop where
 h:∃ m,ok m=true∧F m
theorem DrawR.go {ops:List Oper} {ok:Nat→Bool} {F:Nat→Prop} (m:Nat) (h1:ok m=true) (h2:F m):DrawR ops ok F:=⟨m,h1,h2⟩
def effOf:List Oper→Nat→Nat
 |[],n=>n
 |o::r,n=>match o.op with
  |.call c=>match c.callee with
   |.builtin .append | .builtin .copy | .builtin .delete=>n
   |_=>effOf r (n+1)
  |.store _ _ _ | .mapUpdate _ _ _ _=>n
  |.alloc _=>match o.after.toList with
   |[]=>match n with
    |0=>0
    |n+1=>effOf r (n+2)
   |_=>n
  |_=>effOf r (n+1)
structure Halt' (p:Prop):Prop where
 h:p
structure KerB (b:Bool) (F:Prop):Prop where
 h1:b=true
 h2:F
def naggAt (fr:List D):List Nat→Option Nat
 |[]=>none
 |t::r=>match fr[t]? with
  |some (.nagg _ _ _ _ _)=>some t
  |_=>naggAt fr r
def kindsOk (fr:List D) (t:Nat) (z:List D):Bool:=match fr[t]? with
 |some (.obj (.bool _::_))=>match z with
  |.int _ _::_=>true
  |_=>false
 |_=>false
def flatBut (cs:List D) (off:Nat):Bool:=(cs.set off (.bool true)).all D.flat1
def afterQ (fr0 fr:List D) (wr:List Nat) (K1 K:List D→Prop):Prop:=
 match newAt fr0 fr wr with
 |none=>match fr.any D.isNew with
  |true=>False
  |false=>K1 fr
 |some (t+1)=>match naggAt fr wr with
  |none=>forceL (keepL (t+1) wr fr0 0 fr) K
  |some t2=>match fr[t2]? with
   |some (.nagg cs off sz n z)=>match kindsOk fr (t+1) z && (flatBut cs off && (Nat.blt off cs.length && !(Nat.beq t2 (t+1) || ownsAt fr0 t2))) with
    |true=>forceL ((keepL (t+1) wr fr0 0 fr).set t2 (.agg (cs.set off (.sl 2 sz (List.replicate n z))))) K
    |false=>False
   |_=>False
 |some 0=>False
def elsAt:Nat→List D→List Nat
 |_,[] => []
 |i,.el _ _ _ _ _::r=>i::elsAt (i+1) r
 |i,_::r=>elsAt (i+1) r
def keep1 (frN:List D) (ops:List Oper) (fr:List D) (i:Nat):List D:=match frN[i]? with
 |some (.el u off sz k j)=>match fr[i]? with
  |some .any=>match ops.all fun o=>o.dst != some i with
   |true=>fr.set i (.el u off sz k j)
   |false=>fr
  |_=>fr
 |_=>fr
def keepN (frN:List D) (ops:List Oper) (fr:List D):List D:=(elsAt 0 frN).foldl (keep1 frN ops) fr
def keepK (frN:List D) (ops:List Oper) (fr:List D) (K:List D→Prop):Prop:=match frN.any D.nm3 with
 |true=>forceL (keepN frN ops fr) K
 |false=>K fr
def lowsF (M:Nat→Bool):List (Nat × Nat)→List D→List D
 |[],fr=>fr
 | (x,n)::r,fr=>lowsF M r (match M x with
  |true=>downC1 0 n fr
  | false=>fr)
def lows (M:Nat→Bool) (fr:List D):List D:=match fr with
 |.obj cs::r=>lowsF M [(10000000,0),(10000001,1),(10000002,2),(10000003,3),(10000004,4),(10000005,5),(10000006,6),(10000007,7),(10000008,8),(10000009,9)] (.obj cs::r)
 |fr=>fr
def vcRegion (P:Program) (T:Nat→Option TI) (Z:Nat→Option (List Value)) (M:Nat→Bool) (ops:List Oper) (draw:Bool) (fr:List D) (K:List D→Prop):Prop:=
 match draw with
 |false=>vcOps P T Z M ops ops fr K
 |true=>DrawR ops (fun m=>parOk ops.toArray && (tailOk ops.toArray m && (Nat.ble m ops.length && inB ops fr.length))) fun m=>
   forceL (prepR ops (headsOf M ops) (lows M fr)) fun frN=>forceL (dropN frN) fun fr0=>match writerOf M ops fr0 (ops.take m) 0 with
    |none=>vcQ P T Z ops ops.length fr0.length .any fr0 0 (ops.take m) fr0 fun fr'=>afterQ fr0 fr' (wrOf (ops.take m)) (fun fr'=>keepK frN (ops.take m) fr' fun fr'=>vcOps P T Z M ops (ops.drop m) fr' K) fun fr'=>vcOps P T Z M ops (ops.drop m) fr' K
    | some (k,cs,d)=>KerB (lateOk ops.toArray k) (forceL (fr0.set cs .any) fun frX=>vcQ P T Z ops k cs d frX 0 (ops.take m) frX fun fr'=>match newAt frX fr' (wrOf (ops.take m)) with
     |none=>match fr'.any D.isNew with
      |true=>False
      |false=>forceL (fr'.map (unal cs .any)) fun fr'=>vcOps P T Z M ops (ops.drop m) fr' K
     | some _=>False)
structure HT (P:Program) (c:Code) (fr:List D) (Q:Exit→List D→Prop):Prop where
 h:∀ (S:Sig) (w:World) (a:Act),FR S w a fr→∀ Q':Exit→Act→World→Prop,(∀ e fr' S' w' a',Q e fr'→Trans S w S' w'→FR S' w' a' fr'→Q' e a' w')→c.wp P Q' a w
def vc (P:Program) (T:Nat→Option TI) (Z:Nat→Option (List Value)) (M:Nat→Bool):Code→List D→(Exit→List D→Prop)→Prop
 |.skip,fr,Q=>Q .normal fr
 |.region id ops draw,fr,Q=>match draw && M (5000000+id) with
  |true=>vcI P T Z M ops.toList fr fun fr'=>Q .normal fr'
  |false=>vcRegion P T Z M ops.toList draw fr fun fr'=>Q .normal fr'
 |.seq x y,fr,Q=>vc P T Z M x fr fun e fr'=>match e with
  |.normal=>vc P T Z M y fr' Q
  |e=>Q e fr'
 |.cond c x y,fr,Q=>match evalD fr c with
  |.bool b=>CondD b (vc P T Z M x fr Q) (vc P T Z M y fr Q)
  |_=>False
 |.block id c,fr,Q=>vc P T Z M c fr fun e fr'=>match e with
  |.exit n=>match Nat.beq n id with
   |true=>Q .normal fr'
   |false=>Q (.exit n) fr'
  |e=>Q e fr'
 |.loop c,fr,Q=>Halt' (HT P (.loop c) fr Q)
 |.exit id,fr,Q=>Q (.exit id) fr
 |.ret,fr,Q=>Q .ret fr
 |_,_,_=>False
section
variable {P:Program} {T:Nat→Option TI} {Z:Nat→Option (List Value)} {M:Nat→Bool}
theorem prepR_sound (heads:List Nat) (ops:List Oper) {fr:List D} (h:FR S w a fr):∃ S',Trans S w S' w∧FR S' w a (prepR ops heads fr):=by
 refine fold_sound (fun S fr o h => ?_) ops S fr h
 split
 ·split
  ·split
   ·exact ⟨S,Trans.refl S w,h⟩
   ·exact down1_sound h _
  ·exact ⟨S,Trans.refl S w,h⟩
 ·exact ⟨S,Trans.refl S w,h⟩
theorem reach_out {l:Array Oper} (hok:parOk l=true) {c:Nat} (hc:l.size≤c):∀ (f i:Nat),reachB l f i c=false
 |0,_=>rfl
 |f+1,i=>by
  unfold reachB
  cases ho:l[i]? with
  |none=>rfl
  |some o=>
   simp only
   rw [Array.any_eq_false']
   intro e he
   simp only [Bool.and_eq_true,Bool.or_eq_true,beq_iff_eq,not_and]
   intro hb h
   have hlt:=parOk_before hok ho he hb
   have hi:=(Array.getElem?_eq_some_iff.1 ho).1
   rcases h with h|h
   ·omega
   ·rw [reach_out hok hc f e.on] at h
    cases h
theorem late_out {l:Array Oper} (hok:parOk l=true):lateOk l l.size=true:=by
 refine List.all_eq_true.2 fun i hi => ?_
 cases ho:l[i]? with
 |none=>rfl
 |some o=>
  refine Array.all_eq_true'.2 fun e he => ?_
  cases hb:Region.binds .any e with
  |false=>rfl
  |true=>
   have hlt:=parOk_before hok ho he hb
   have hi:=(Array.getElem?_eq_some_iff.1 ho).1
   have:lateOf l l.size e.on=false:=by
    unfold lateOf
    rw [reach_out hok (Nat.le_refl _)]
    simp
    omega
   rw [this]
   rfl
theorem nagg_end {cs n0c:Nat} {a0:Act} {frF fr0 fr:List D} {pre l:List Oper} {fs:List (World→Prop)} {w0:World} (h:QInv S l.toArray n0c cs w0.heap.size a0 fr0 pre fs a fr) (hC:QC S l n0c cs a0 frF fr0 w0) (hcs:frF[cs]?=none) (hR:Rw S cs w0 w) (hf:∀ f ∈ fs,f w) {t t2 off sz n:Nat} {cs2 z:List D} (ht:newAt fr0 fr (wrOf pre)=some (t+1)) (hd2:fr[t2]?=some (.nagg cs2 off sz n z))
  (hb:(kindsOk fr (t+1) z && (flatBut cs2 off && (Nat.blt off cs2.length && !(Nat.beq t2 (t+1) || ownsAt fr0 t2))))=true) (hk:K ((keepL (t+1) (wrOf pre) fr0 0 fr).set t2 (.agg (cs2.set off (.sl 2 sz (List.replicate n z)))))):
  ∃ fr'' S2,Trans S w0 S2 w∧FR S2 w a fr''∧K fr'':=by
 simp only [Bool.and_eq_true,Bool.not_eq_true',Bool.or_eq_false_iff] at hb
 obtain ⟨hkd,hfl,hlt,hne,hno⟩:=hb
 have hlt:off < cs2.length:=Nat.le_of_succ_le_succ (Nat.succ_le_succ (Nat.le_of_ble_eq_true hlt))
 have hne:t2 ≠ t+1:=fun e=>by subst e;simp at hne
 rcases h.slot' t2 _ hd2 with ⟨_,h2⟩|⟨⟨k,p,v,k1,k2,k3,k4,k5⟩,_⟩
 ·exfalso
  by_cases htc:t2=cs
  ·subst htc
   cases hC.at_cs h2
  ·rw [hC.other htc] at h2
   obtain ⟨v,hv,hs⟩:=hC.hF.at h2
   cases hs.1 with
   |fz h=>cases h
 ·have hA:NewA (sg S l.toArray n0c cs k) w0.heap.size cs2 off sz n z v w:=(hf _ (gMem k4)).2
  obtain ⟨us,u,rfl,hul,h1,huo,⟨b2,cap,cur,e,rfl,hb0,_,hbh,hn1,hnc,hcm,hcs2,hzl,hcells⟩,hrest⟩:=hA
  obtain ⟨S2,tr,f2,ho2⟩:=h.frN (some (b2,⟨t2+2,[off]⟩)) hC hcs hR hf ht (by omega) (fun b3 q3 e3=>by
   cases e3
   refine ⟨hb0,cur,e,hbh,fun zc hx he => ?_⟩
   unfold kindsOk at hkd
   rw [hx] at hkd
   cases zc with
   |nil=>simp [zeroD] at hkd
   |cons z0 zr=>
    cases z with
    |nil=>simp at hkd;split at hkd<;>simp at hkd
    |cons d dr=>
     obtain ⟨u0,q1,_,q3,q4⟩:=hcells 0 0 d (by omega) rfl
     rw [he] at q1
     simp at q1
     subst q1
     simp only [zeroD,List.map_cons] at hkd
     cases d with
     |int kk m=>cases q4;simp [ofVal] at hkd
     | _=>split at hkd<;>first|(cases hkd;done)|simp at hkd)
  have hown:=ho2 b2 _ rfl
  have hin:memN t2 (wrOf pre)=true:=memN_iff.2 (List.mem_filterMap.2 ⟨p,gMem k1,k2⟩)
  have hat:(keepL (t+1) (wrOf pre) fr0 0 fr)[t2]?=some .any:=by
   rw [keepL_at,Nat.zero_add,hd2,hin,hno]
   have:Nat.beq t2 (t+1)=false:=by
    cases hbq:Nat.beq t2 (t+1) with
    |false=>rfl
    |true=>exact absurd (Nat.eq_of_beq_eq_true hbq) hne
   rw [this]
   rfl
  have hrep:Rep S2 w (.slot t2) (.agg us.toArray) (.agg (cs2.set off (.sl 2 sz (List.replicate n z)))):=by
   refine .agg us (by rw [List.length_set];exact hul) h1 fun j d x hd hx => ?_
   by_cases hj:j=off
   ·subst hj
    rw [List.getElem?_set_self hlt] at hd
    cases hd
    rw [huo] at hx
    cases hx
    have hO:OwnAt S2 w ⟨t2+2,[j]⟩ b2 cap 2 sz (List.replicate n z) cur e:=by
     refine ⟨.inr rfl,hbh,by rw [List.length_replicate];exact hnc,hcm,hcs2,fun r hr=>by rw [(List.mem_replicate.1 hr).2];exact hzl,by rw [if_pos rfl];exact hown,fun k' r j' d' hk' hd' => ?_⟩
     have hkn:k' < n:=by have:=(List.getElem?_eq_some_iff.1 hk').1;simpa using this
     rw [List.getElem?_replicate,if_pos hkn] at hk'
     cases hk'
     obtain ⟨u',q1,q2,q3,q4⟩:=hcells k' j' d' hkn hd'
     exact ⟨u',q1,q2,flat1_any q3 q4⟩
    have:=Rep.own hO
    rw [List.length_replicate] at this
    exact this
   ·rw [List.getElem?_set_ne (Ne.symm hj)] at hd
    have hfd:d.flat1=true:=List.all_eq_true.1 hfl d (gMem (by rw [List.getElem?_set_ne (Ne.symm hj)];exact hd))
    exact .fz (flat1_any hfd (hrest j d x hj hd hx).2)
  refine ⟨_,S2,tr,f2.setD hat rfl k3 hrep (fun x hx => ?_),hk⟩
  cases hx with
  |agg hd hm=>
   rename_i j d
   by_cases hj:j=off
   ·subst hj
    rw [List.getElem?_set_self hlt] at hd
    cases hd
    exact (no_men_sl hm).elim
   ·rw [List.getElem?_set_ne (Ne.symm hj)] at hd
    have hfd:d.flat1=true:=List.all_eq_true.1 hfl d (gMem (by rw [List.getElem?_set_ne (Ne.symm hj)];exact hd))
    cases d with
    |int kk m=>cases hm
    |bool bb=>cases hm
    |str ss=>cases hm
    |_=>cases hfd
theorem isNew_no {fr:List D} (h:fr.any D.isNew=false) (i:Nat) (d:D) (hd:fr[i]?=some d):d.isNew=false:=by
 have:=List.any_eq_false.1 h d (gMem hd)
 simpa using this
theorem downC1_sound {fr:List D} (h:FR S w a fr) (u off:Nat):∃ S',Trans S w S' w∧FR S' w a (downC1 u off fr):=by
 unfold downC1
 split
 ·rename_i hd
  split
  ·rename_i hc;exact h.downC hd hc
  ·exact ⟨S,Trans.refl S w,h⟩
 ·exact ⟨S,Trans.refl S w,h⟩
theorem lowsF_sound {w:World} {a:Act} (M:Nat→Bool):∀ (L:List (Nat × Nat)) {S:Sig} {fr:List D},FR S w a fr→∃ S',Trans S w S' w∧FR S' w a (lowsF M L fr)
 |[],S,_,h=>⟨S,Trans.refl S w,h⟩
 |(x,n)::L,S,fr,h=>by
  unfold lowsF
  split
  ·obtain ⟨S1,t1,h1⟩:=downC1_sound h 0 n
   obtain ⟨S2,t2,h2⟩:=lowsF_sound M L h1
   exact ⟨S2,t1.trans t2,h2⟩
  ·exact lowsF_sound M L h
theorem lows_sound {fr:List D} (M:Nat→Bool) (h:FR S w a fr):∃ S',Trans S w S' w∧FR S' w a (lows M fr):=by
 unfold lows
 split
 ·exact lowsF_sound M _ h
 ·exact ⟨S,Trans.refl S w,h⟩
theorem SlotRep.setAny {fr:List D} {i j:Nat} {d e:D} {v:Value} (h0:fr[i]?=some .any) (h:SlotRep S w a fr j v e):SlotRep S w a (fr.set i d) j v e:=by
 have ne:∀ (u:Nat) (d':D),fr[u]?=some d'→d'.owns=true→(fr.set i d)[u]?=some d':=fun u d' hu ho=>by
  have:i ≠ u:=fun e=>by subst e;rw [h0] at hu;cases hu;cases ho
  rw [List.getElem?_set_ne this];exact hu
 have hob:∀ u,ObjAt S fr u→ObjAt S (fr.set i d) u:=fun u h=>by
  obtain ⟨⟨cs,hc⟩,ho⟩:=h
  exact ⟨⟨cs,ne u _ hc rfl⟩,ho⟩
 have hrk:∀ e,RefOk fr e→RefOk (fr.set i d) e:=fun e he x hx=>by
  obtain ⟨cs,hc⟩:=he x hx
  exact ⟨cs,ne x _ hc rfl⟩
 cases e with
 |al x=>
  obtain ⟨h1,d',h2,h3,h4⟩:=h
  exact ⟨h1,d',ne x _ h2 h3,h3,h4⟩
 |alc x o=>exact ⟨hob _ h.1,h.2⟩
 |el x o sz k j=>exact ⟨hob _ h.1,h.2⟩
 |es x sz k j=>
  obtain ⟨⟨d',h2,h3,h4⟩,h5⟩:=h
  exact ⟨⟨d',ne x _ h2 h3,h3,h4⟩,h5⟩
 |_=>exact ⟨h.1,hrk _ h.2⟩
theorem keep_sound {S:Sig} {cs:Nat} {w w':World} {a a':Act} {frN:List D} (ops:List Oper) (hFN:FR S w a frN) (hx:Rw S cs w w') (hcs:frN.length≤cs):∀ (L:List Nat) {fr:List D},FR (S.drop cs) w' a' fr→(∀ (u:Nat) (c:List D),frN[u]?=some (D.obj c)→∃ c',fr[u]?=some (D.obj c'))→(∀ i:Nat,(ops.all fun o=>o.dst != some i)=true→fr[i]?=some D.any→a'.tmps[i]?=a.tmps[i]?)→FR (S.drop cs) w' a' (L.foldl (keep1 frN ops) fr)
 |[],_,h,_,_=>h
 |i::L,fr,h,hob,htm=>by
  rw [List.foldl_cons]
  unfold keep1
  split
  ·rename_i u off sz k j hN
   split
   ·rename_i hany
    split
    ·rename_i hall
     have ht:=htm i hall hany
     obtain ⟨v,hv⟩:∃ v,a.tmps[i]?=some v:=by
      have hlt:i < frN.length:=(gLt hN)
      exact ⟨_,Array.getElem?_eq_getElem (by rw [hFN.size];exact hlt)⟩
     obtain ⟨⟨⟨c,hc⟩,how⟩,s,hs,hel⟩:=hFN.slot i _ v hN hv
     obtain ⟨c',hc'⟩:=hob u c hc
     have hul:u < frN.length:=(gLt hc)
     have hmine:mine cs (S.own (S.loc (u+2)))=false:=by
      rw [how]
      have:u ≠ cs:=by omega
      simp [mine,Place.slot,this]
     have hbl:=hx.same _ (cell_lt hs) hmine
     have hne:i ≠ u:=fun e=>by subst e;rw [hany] at hc';cases hc'
     have hnew:SlotRep (S.drop cs) w' a' (fr.set i (.el u off sz k j)) i v (.el u off sz k j):=by
      refine ⟨⟨⟨c',by rw [List.getElem?_set_ne hne];exact hc'⟩,?_⟩,s,?_,hel⟩
      ·show (S.drop cs).own (S.loc (u+2))=_
       rw [drop_own hmine]
       exact how
      ·show w'.cell? ⟨S.loc (u+2),off,none⟩=some s
       unfold World.cell? at hs ⊢
       rw [hbl]
       exact hs
     refine keep_sound ops hFN hx hcs L ⟨h.wf,by rw [List.length_set];exact h.size,h.defers,fun x d y hd hy => ?_⟩ (fun x c hxc => ?_) fun x hxa hxd => ?_
     ·by_cases hxi:x=i
      ·subst hxi
       have hlt:x < fr.length:=(gLt hany)
       rw [List.getElem?_set_self hlt] at hd
       cases hd
       rw [ht,hv] at hy
       cases hy
       exact hnew
      ·rw [List.getElem?_set_ne (Ne.symm hxi)] at hd
       exact (h.slot x d y hd hy).setAny hany
     ·obtain ⟨c2,h2⟩:=hob x c hxc
      have:i ≠ x:=fun e=>by subst e;rw [hany] at h2;cases h2
      exact ⟨c2,by rw [List.getElem?_set_ne this];exact h2⟩
     ·by_cases hxi:x=i
      ·subst hxi
       have hlt:x < fr.length:=(gLt hany)
       rw [List.getElem?_set_self hlt] at hxd
       cases hxd
      ·rw [List.getElem?_set_ne (Ne.symm hxi)] at hxd
       exact htm x hxa hxd
    ·exact keep_sound ops hFN hx hcs L h hob htm
   ·exact keep_sound ops hFN hx hcs L h hob htm
  ·exact keep_sound ops hFN hx hcs L h hob htm
theorem keepK_sound {cs:Nat} {w':World} {a':Act} {frN fr:List D} {ops:List Oper} (hFN:FR S w a frN) (hx:Rw S cs w w') (hcs:frN.length≤cs) (h:FR (S.drop cs) w' a' fr) (hob:∀ (u:Nat) (c:List D),frN[u]?=some (D.obj c)→∃ c',fr[u]?=some (D.obj c')) (htm:∀ i:Nat,(ops.all fun o=>o.dst != some i)=true→fr[i]?=some D.any→a'.tmps[i]?=a.tmps[i]?) (hk:keepK frN ops fr K):∃ fr',FR (S.drop cs) w' a' fr'∧K fr':=by
 unfold keepK at hk
 split at hk
 ·rw [forceL_eq] at hk
  exact ⟨_,keep_sound ops hFN hx hcs _ h hob htm,hk⟩
 ·exact ⟨_,h,hk⟩
theorem vcRegion_sound (hT:TOk P T Z) (hm:P.follows .mixedOrders=true) {id:Nat} {l:List Oper} {draw:Bool} {fr:List D} (h:vcRegion P T Z M l draw fr K) (hF:FR S w a fr) {Q:Exit→Act→World→Prop}
  (hK:∀ fr' S' w' a',K fr'→Trans S w S' w'→FR S' w' a' fr'→Q .normal a' w'):(Code.region id l.toArray draw).wp P Q a w:=by
 cases draw with
 |false=>exact wp_region_lit (vcOps_sound hT l hF h hK)
 |true=>
  obtain ⟨m,hb,hv⟩:=h.h
  rw [forceL_eq,forceL_eq] at hv
  simp only [Bool.and_eq_true] at hb
  obtain ⟨hpar,htail,hml,hin⟩:=hb
  obtain ⟨S0,t0,hF0⟩:=lows_sound M hF
  obtain ⟨S1,t1,hF1⟩:=prepR_sound (headsOf M l) l hF0
  replace t1:=t0.trans t1
  generalize prepR l (headsOf M l) (lows M fr)=frN at hv hF1
  have hFN:=hF1
  replace hF1:=hF1.dropN
  have hnm:∀ (i:Nat) (d:D),(dropN frN)[i]?=some d→d.nm3=false:=fun i d hd=>dropN_no hd
  have hlenN:frN.length=(dropN frN).length:=(dropN_len frN).symm
  have hobN:∀ u c,frN[u]?=some (D.obj c)→(dropN frN)[u]?=some (D.obj c):=fun u c h=>by rw [dropN_eq,List.getElem?_map,h];rfl
  generalize hfr1:dropN frN=fr1 at hv hF1 hnm hlenN hobN
  have hin':(l.all fun o=>match o.dst with|some d=>decide (d < a.tmps.size)|none=>true)=true:=by
   have:a.tmps.size=fr.length:=hF.size
   rw [this]
   exact hin
  have hpre:∀ (k:Nat) (p:Oper),([]++l.take m)[k]?=some p→l[k]?=some p:=fun k p hk=>by
   rw [List.nil_append,List.getElem?_take] at hk
   split at hk
   ·exact hk
   ·cases hk
  have go:∀ {ci cs:Nat} {d0:D} {fr0:List D} {K0:List D→Prop},QC S1 l ci cs a fr1 fr0 w→(∀ m sz rows,d0=.sl (m+1) sz rows→fr1[cs]?=some d0)→vcQ P T Z l ci cs d0 fr0 0 (l.take m) fr0 K0→
    (∀ fr' fs a' w',K0 fr'→Rw S1 cs w w'→QInv S1 l.toArray ci cs w.heap.size a fr0 (l.take m) fs a' fr'→(∀ f ∈ fs,f w')→∃ fr'' S2,Trans S1 w S2 w'∧FR S2 w' a' fr''∧vcOps P T Z M l (l.drop m) fr'' K)→(Code.region id l.toArray true).wp P Q a w:=by
   intro ci cs d0 fr0 K0 hC hd0 hq hend
   obtain ⟨ss,hss⟩:=vcQ_sound (Q:=tailQ P l m Q) hT hC hd0 (Nat.le_refl _) (L:=l.take m) (fun fr' fs a' w' hk hx hI hf=>by
    obtain ⟨fr'',S2,t2,hF',hk'⟩:=hend fr' fs a' w' hk hx hI hf
    show wpList P l.toArray (NoPanic Q) (l.drop m) a' w'
    exact vcOps_sound hT _ hF' hk' fun fr'' S'' w'' a'' k t f=>NoPanic.normal (hK fr'' S'' w'' a'' k (t1.trans (t2.trans t)) f)) (l.take m) [] fr0 (by simp) hpre hq
   refine wp_region_ways m (ways S1 l.toArray ci cs) hm hpar htail (Nat.le_of_ble_eq_true hml) (fun i hi hic => ?_) hin' (ss:=ss) (hss [] a ⟨?_,rfl,hF1.defers,rfl,fun t d hd=>.inl ⟨rfl,hd⟩,fun u d hd _=>⟨hd,rfl⟩,rfl⟩)
   ·have hi':lateOf l.toArray ci i=true:=hi
    have hic':i ≠ ci:=hic
    unfold lateOf at hi'
    simp only [hic',decide_false,Bool.false_or] at hi'
    exact hi'
   ·rw [hC.hX,List.length_set]
    exact hF1.size
  split at hv
  ·refine go (ci:=l.length) (cs:=fr1.length) ⟨hF1,by rw [List.set_eq_of_length_le (Nat.le_refl _)],(fun x h=>by simp at h),hpar,?_,hnm⟩ (fun m sz rows e=>by cases e) hv fun fr' fs a' w' hk hx hI hf => ?_
   rotate_left
   ·have hC:QC S1 l l.length fr1.length a fr1 fr1 w:=⟨hF1,by rw [List.set_eq_of_length_le (Nat.le_refl _)],(fun x h=>by simp at h),hpar,by have:=late_out hpar;simpa using this,hnm⟩
    unfold afterQ at hk
    split at hk
    ·rename_i hn
     split at hk
     ·exact hk.elim
     ·rename_i hne
      have hFr:=(hI.fr hC hx hf (hI.nob hn) (isNew_no hne)).2 (by simp)
      obtain ⟨fr'',q1,q2⟩:=keepK_sound hFN hx (by omega) hFr (fun u c hu=>⟨c,(hI.own u _ (hobN u c hu) rfl).1⟩) (fun i hall hany=>by
       rcases hI.slot i _ hany with ⟨h1,_⟩|⟨k,o,v,k1,k2,_⟩
       ·exact h1
       ·have:=List.all_eq_true.1 hall o (gMem k1)
        simp [k2] at this) hk
      exact ⟨fr'',_,hx.to (.inr rfl),q1,q2⟩
    ·rename_i t hn
     split at hk
     rotate_left
     ·rename_i t2 _
      split at hk
      ·rename_i cs2 off sz n z hd2
       split at hk
       ·rename_i hb2
        rw [forceL_eq] at hk
        exact nagg_end hI hC (by simp) hx hf hn hd2 hb2 hk
       ·exact hk.elim
      ·exact hk.elim
     rw [forceL_eq] at hk
     obtain ⟨S2,t2,f2,_⟩:=hI.frN none hC (by simp) hx hf hn (by omega) (fun _ _ e=>by cases e)
     exact ⟨_,S2,t2,f2,hk⟩
    ·exact hk.elim
   have:=late_out hpar
   simpa using this
  ·rename_i k cs d hwr
   obtain ⟨hlate,hv⟩:=hv
   simp only [forceL_eq] at hv
   obtain ⟨hcs,m',sz,rows,rfl⟩:=writerOf_at hwr
   have hC:QC S1 l k cs a fr1 (fr1.set cs .any) w:=⟨hF1,rfl,(fun x h=>by rw [hcs] at h;cases h),hpar,hlate,hnm⟩
   refine go hC (fun _ _ _ _=>hcs) hv fun fr' fs a' w' hk hx hI hf => ?_
   split at hk
   ·rename_i hn
    split at hk
    ·exact hk.elim
    ·rename_i hne
     exact ⟨_,_,hx.to (.inr rfl),(hI.fr hC hx hf (hI.nob hn) (isNew_no hne)).1,hk⟩
   ·exact hk.elim
theorem vc_sound (hT:TOk P T Z) (hm:P.follows .mixedOrders=true):∀ (c:Code) {fr:List D} {Q:Exit→List D→Prop},vc P T Z M c fr Q→HT P c fr Q:=by
 intro c
 induction c with
 |skip=>exact fun h=>⟨fun S w a hF Q' hQ=>wp_skip (hQ _ _ S w a h (Trans.refl S w) hF)⟩
 |region id ops draw=>
  intro fr Q h
  refine ⟨fun S w a hF Q' hQ => ?_⟩
  simp only [vc] at h
  split at h
  ·rename_i hb
   simp only [Bool.and_eq_true] at hb
   rw [hb.1]
   have:=vcI_sound (id:=id) hT hm h hF (Q:=Q') fun fr' S' w' a' k t f=>hQ _ _ S' w' a' k t f
   simpa using this
  have:=vcRegion_sound (id:=id) hT hm h hF (Q:=Q') fun fr' S' w' a' k t f=>hQ _ _ S' w' a' k t f
  simpa using this
 |seq x y ihx ihy=>
  intro fr Q h
  refine ⟨fun S w a hF Q' hQ=>wp_seq ((ihx h).h S w a hF _ fun e fr' S' w' a' k t f => ?_)⟩
  cases e with
  |normal=>exact (ihy k).h S' w' a' f Q' fun e'' fr'' S'' w'' a'' k2 t2 f2=>hQ e'' fr'' S'' w'' a'' k2 (t.trans t2) f2
  |_=>exact hQ _ _ S' w' a' k t f
 |cond c x y ihx ihy=>
  intro fr Q h
  refine ⟨fun S w a hF Q' hQ => ?_⟩
  simp only [vc] at h
  split at h
  ·rename_i b hb
   obtain ⟨q,hq⟩:=hF.eval c
   rw [hb] at hq
   exact wp_cond_split hq.bool_inv (fun e=>(ihx (h.1 e)).h S w a hF Q' hQ) (fun e=>(ihy (h.2 e)).h S w a hF Q' hQ)
  ·exact h.elim
 |block id c ih=>
  intro fr Q h
  refine ⟨fun S w a hF Q' hQ=>wp_block ((ih h).h S w a hF _ fun e fr' S' w' a' k t f => ?_)⟩
  cases e with
  |exit n=>
   simp only at k
   simp only [Exit.inBlock]
   split at k
   ·rename_i hn
    rw [if_pos (Nat.eq_of_beq_eq_true hn)]
    exact hQ _ _ S' w' a' k t f
   ·rename_i hn
    rw [if_neg (fun e=>by subst e;simp at hn)]
    exact hQ _ _ S' w' a' k t f
  |_=>exact hQ _ _ S' w' a' k t f
 |loop c=>exact fun h=>h.h
 |exit id=>exact fun h=>⟨fun S w a hF Q' hQ=>wp_exit (hQ _ _ S w a h (Trans.refl S w) hF)⟩
 |ret=>exact fun h=>⟨fun S w a hF Q' hQ=>wp_ret (hQ _ _ S w a h (Trans.refl S w) hF)⟩
 |_=>exact fun h=>h.elim
def keepOk (fr fr':List D):Bool:=(List.range fr'.length).all fun i=>match fr'[i]? with
 |some (.al u)=>match fr'[u]? with
  |some d=>d.owns && !(Nat.beq u i)
  |none=>false
 |some (.alc u _)=>match fr'[u]? with
  |some d=>d.isObj
  |none=>false
 |some (.el u _ _ _ _)=>match fr'[u]? with
  |some d=>d.isObj
  |none=>false
 |some (.es u _ _ _)=>match fr'[u]? with
  |some d=>d.owns && !(Nat.beq u i)
  |none=>false
 |some d=>match fr[i]? with
  |some (.obj _)=>d.isObj || fr'.all (safeB i)
  |_=>true
 |none=>true
structure FLe (fr fr':List D):Prop where
 le:DLes fr fr'
 keep:keepOk fr fr'=true
theorem isObj_ex {d:D} (h:d.isObj=true):∃ cs,d=.obj cs:=by cases d<;>first|exact ⟨_,rfl⟩|cases h
theorem FLe.nm {fr fr':List D} (hl:FLe fr fr') {i:Nat} {d:D} (hd:fr'[i]?=some d):(∀ u o,d=.alc u o→∃ cs,fr'[u]?=some (.obj cs))∧(∀ u o sz k j,d=.el u o sz k j→∃ cs,fr'[u]?=some (.obj cs))∧∀ u sz k j,d=.es u sz k j→∃ d':D,fr'[u]?=some d'∧d'.owns=true∧u ≠ i:=by
 have hi:i < fr'.length:=(gLt hd)
 have:=List.all_eq_true.1 hl.keep i (List.mem_range.2 hi)
 rw [hd] at this
 refine ⟨fun u o e => ?_,fun u o sz k j e => ?_,fun u sz k j e => ?_⟩
 ·subst e
  simp only at this
  split at this
  ·rename_i d' hd'
   obtain ⟨cs,rfl⟩:=isObj_ex this
   exact ⟨cs,hd'⟩
  ·cases this
 ·subst e
  simp only at this
  split at this
  ·rename_i d' hd'
   obtain ⟨cs,rfl⟩:=isObj_ex this
   exact ⟨cs,hd'⟩
  ·cases this
 ·subst e
  simp only at this
  split at this
  ·rename_i d' hd'
   simp only [Bool.and_eq_true,Bool.not_eq_true'] at this
   exact ⟨d',hd',this.1,fun e=>by subst e;simp at this⟩
  ·cases this
theorem FR.le {fr fr':List D} (h:FR S w a fr) (hl:FLe fr fr'):FR S w a fr':=by
 have hlen:=hl.le.len
 have hk:∀ (i:Nat) (d:D),fr'[i]?=some d→(∀ u,d=.al u→∃ d':D,fr'[u]?=some d'∧d'.owns=true∧u ≠ i)∧∀ cs,fr[i]?=some (D.obj cs)→d.isObj=true∨∀ e ∈ fr',¬ Men i e:=fun i d hd=>by
  have hi:i < fr'.length:=(gLt hd)
  have:=List.all_eq_true.1 hl.keep i (List.mem_range.2 hi)
  rw [hd] at this
  refine ⟨fun u e => ?_,fun cs hc => ?_⟩
  ·subst e
   simp only at this
   split at this
   ·rename_i d' hd'
    simp only [Bool.and_eq_true,Bool.not_eq_true'] at this
    exact ⟨d',hd',this.1,fun e=>by subst e;simp at this⟩
   ·cases this
  ·cases d with
   |obj cs=>exact .inl rfl
   |al u=>
    exfalso
    have h1:=hl.le.get (i:=i) hc hd
    cases h1
   |alc u o=>
    exfalso
    have h1:=hl.le.get (i:=i) hc hd
    cases h1
   |el u o sz k j=>
    exfalso
    have h1:=hl.le.get (i:=i) hc hd
    cases h1
   |es u sz k j=>
    exfalso
    have h1:=hl.le.get (i:=i) hc hd
    cases h1
   |_=>
    simp only [hc,Bool.or_eq_true] at this
    rcases this with h|h
    ·exact .inl h
    ·exact .inr fun e he=>safeB_men (List.all_eq_true.1 h e he)
 have hmen:∀ {d d':D},DLe d d'→∀ {p:Place} {v:Value},Rep S w p v d→∀ t,Men t d'→Men t d:=by
  intro d d' hd
  induction hd with
  |refl d=>exact fun _ t h=>h
  |any d=>exact fun _ t h=>by cases h
  |nil m sz=>exact fun _ t h=>by cases h
  |own sz rows=>exact fun _ t h=>by cases h
  |rows=>exact fun _ t h=>by cases h
  |gd hc _ ih=>
   intro p v hr t hm
   have hf:=hr.gd_inv.1 hc
   exact (hf.men (ih (.fz (p:=p) hf) t hm)).elim
  |@agg ds ds' hl' _ ih=>
   intro p v hr t hm
   obtain ⟨vs,rfl,h1,h2,h3⟩:=hr.agg_inv
   cases hm with
   |@agg j _ d0 hj hm=>
    have hjl:j < ds.length:=by rw [← hl'];exact (gLt hj)
    exact .agg (List.getElem?_eq_getElem hjl) (ih j _ _ (List.getElem?_eq_getElem hjl) hj (h3 j _ _ (List.getElem?_eq_getElem hjl) (List.getElem?_eq_getElem (by omega))) t hm)
  |@tup ds ds' hl' _ ih=>
   intro p v hr t hm
   obtain ⟨vs,rfl,h1,h3⟩:=hr.tup_inv
   cases hm with
   |@tup j _ d0 hj hm=>
    have hjl:j < ds.length:=by rw [← hl'];exact (gLt hj)
    exact .tup (List.getElem?_eq_getElem hjl) (ih j _ _ (List.getElem?_eq_getElem hjl) hj (h3 j _ _ (List.getElem?_eq_getElem hjl) (List.getElem?_eq_getElem (by omega))) t hm)
 refine ⟨h.wf,h.size.trans hlen.symm,h.defers,fun i d' v hd' hv => ?_⟩
 have hi:i < fr.length:=by rw [← hlen];exact (List.getElem?_eq_some_iff.1 hd').1
 obtain ⟨d,hd⟩:∃ d,fr[i]?=some d:=⟨fr[i],List.getElem?_eq_getElem hi⟩
 have hle:=hl.le.get hd hd'
 have hs:=h.slot i d v hd hv
 obtain ⟨k1,_⟩:=hk i d' hd'
 have rest:d.isNm=false→SlotRep S w a fr' i v d':=fun hn=>by
  obtain ⟨r1,r2⟩:=hs.rep hn
  refine SlotRep.of (Rep.le hle r1) fun t ht => ?_
  obtain ⟨cs,hc⟩:=r2 t (hmen hle r1 t ht)
  have htl:t < fr'.length:=by rw [hlen];exact (gLt hc)
  have:=((hk t _ (List.getElem?_eq_getElem htl)).2 cs hc).resolve_right fun hno=>hno d' (gMem hd') ht
  rw [List.getElem?_eq_getElem htl]
  generalize fr'[t]=e at this
  cases e<;>first|exact ⟨_,rfl⟩|cases this
 cases d with
 |al u=>
  cases hle with
  |refl=>
   obtain ⟨d'',g1,g2,g3⟩:=k1 u rfl
   exact ⟨hs.1,d'',g1,g2,g3⟩
  |any=>exact SlotRep.of (.fz (.any _)) fun t ht=>by cases ht
 |alc u o=>
  cases hle with
  |refl=>exact ⟨hs.1.mono (w:=w) (w':=w) ((hl.nm hd').1 _ _ rfl) rfl rfl,hs.2⟩
  |any=>exact SlotRep.of (.fz (.any _)) fun t ht=>by cases ht
 |el u o sz k j=>
  cases hle with
  |refl=>exact ⟨hs.1.mono (w:=w) (w':=w) ((hl.nm hd').2.1 _ _ _ _ _ rfl) rfl rfl,hs.2⟩
  |any=>exact SlotRep.of (.fz (.any _)) fun t ht=>by cases ht
 |es u sz k j=>
  cases hle with
  |refl=>exact ⟨(hl.nm hd').2.2 _ _ _ _ rfl,hs.2⟩
  |any=>exact SlotRep.of (.fz (.any _)) fun t ht=>by cases ht
 |_=>exact rest rfl
theorem vc_loop (hT:TOk P T Z) (hm:P.follows .mixedOrders=true) {c:Code} {fr:List D} {Q:Exit→List D→Prop} {α:Type} (I:α→List D) (pre:α→Prop) (μ:α→Nat) (x0:α) (h0:FLe fr (I x0)) (hp0:pre x0)
  (step:∀ x,pre x→vc P T Z M c (I x) fun e fr'=>match e with
   |.normal=>Halt' (∃ y,pre y∧μ y < μ x∧FLe fr' (I y))
   | e=>Q e fr'):HT P (.loop c) fr Q:=by
 refine ⟨fun S w a hF Q' hQ => ?_⟩
 refine wp_loop_ghost (fun n a' w'=>∃ x S',pre x∧μ x=n∧Trans S w S' w'∧FR S' w' a' (I x)) (μ x0) ⟨x0,S,hp0,rfl,Trans.refl S w,hF.le h0⟩ ?_
 rintro n a1 w1 ⟨x,S1,hx,rfl,t1,f1⟩
 refine (vc_sound hT hm c (step x hx)).h S1 w1 a1 f1 _ fun e fr' S' w' a' k t f => ?_
 cases e with
 |normal=>
  obtain ⟨y,hy,hlt,hle⟩:=k.h
  exact ⟨μ y,hlt,y,S',hy,rfl,t1.trans t,f.le hle⟩
 |_=>exact hQ _ _ S' w' a' k (t1.trans t) f
end
end Go.Proofs.YtindehjiaknokaaGreatDoor
namespace Go.Proofs.YtindehjiaknokaaGreatDoor
set_option linter.unusedSimpArgs false
set_option linter.unusedVariables false
open Go.RowKit
variable {args:List D}
def slotOf:ResultVar→Nat
 |.tmp t=>t
 |.cell t _=>t
def retD (T:Nat→Option TI) (fr:List D):ResultVar→Option D
 |.tmp t=>match fr[t]? with
  |some (.al _)=>none
  |some (.alc _ _)=>none
  |some (.el _ _ _ _ _)=>none
  |some (.es _ _ _ _)=>none
  |d=>d
 |.cell t ty=>match fr[t]? with
  |some (.obj cs)=>match T ty with
   |some (.st n _ _)=>match Nat.beq n cs.length with
    |true=>some (.agg cs)
    |false=>none
   |some _=>match cs with
    |[d]=>match d.one with
     |true=>some d
     |false=>none
    |_=>none
   |none=>none
  |_=>none
inductive RLe (d0 d:D):Prop
 |le (h:DLe d0 d)
 |frz (hc:d0.calm=true) (h:DLe d0.frz d)
def RetL (T:Nat→Option TI) (fr:List D):List ResultVar→List D→Prop
 |[],[]=>True
 | t::ts,d::ds=>(match retD T fr t with
  |some d0=>RLe d0 d
  | none=>False)∧RetL T fr ts ds
 |_,_=>False
def RetOk (T:Nat→Option TI) (rs:List ResultVar) (fr:List D) (d:D):Prop:=
 match rs with
 |[r]=>RetL T fr [r] [d]
 |rs=>match d with
  |.tup ds=>RetL T fr rs ds
  |_=>False
structure Ends (T:Nat→Option TI) (e:Exit) (rs:List ResultVar) (fr:List D) (d:D):Prop where
 e:e=.normal∨e=.ret
 h:RetOk T rs fr d
def OutOk (fr:List D) (out:Option D):Prop:=
 match out with
 |none=>True
 |some (.obj cs')=>match fr.head? with
  |some (.obj cs)=>DLes cs cs'
  |_=>False
 |_=>False
structure EndsO (T:Nat→Option TI) (e:Exit) (rs:List ResultVar) (fr:List D) (d:D) (out:Option D):Prop where
 n:Ends T e rs fr d
 o:OutOk fr out
theorem RetL.get {T:Nat→Option TI} {fr:List D}:∀ {ts:List ResultVar} {ds:List D},RetL T fr ts ds→ts.length=ds.length∧∀ (j:Nat) (t:ResultVar) (d:D),ts[j]?=some t→ds[j]?=some d→∃ d0,retD T fr t=some d0∧RLe d0 d
 |[],[],_=>⟨rfl,fun j t d h=>by simp at h⟩
 |[],_::_,h=>h.elim
 |_::_,[],h=>h.elim
 |t::ts,d::ds,h=>by
  obtain ⟨h1,h2⟩:=h
  obtain ⟨k1,k2⟩:=RetL.get h2
  refine ⟨by simp [k1],fun j t' d' ht hd => ?_⟩
  cases j with
  |zero=>
   cases ht;cases hd
   split at h1
   ·exact ⟨_,by assumption,h1⟩
   ·exact h1.elim
  |succ j=>exact k2 j t' d' (by simpa using ht) (by simpa using hd)
def Sig.ret (S:Sig) (f:Nat→Option (Option (List Nat))):Sig:=
 ⟨fun b=>match S.own b with
  |none=>none
  |some (q,l)=>match f q.r with
   |none=>some (q,l)
   |some none=>none
   | some (some pre)=>some (⟨1,pre++q.path⟩,l),S.loc⟩
theorem Sig.ret_lim {S:Sig} {f:Nat→Option (Option (List Nat))} {b s:Nat} (h:(S.ret f).lim b=some s):S.lim b=some s:=by
 simp only [Sig.lim,Sig.ret] at h ⊢
 cases ho:S.own b with
 |none=>rw [ho] at h;cases h
 |some x=>
  obtain ⟨q,l⟩:=x
  rw [ho] at h
  simp only at h
  split at h
  ·exact h
  ·cases h
  ·exact h
theorem Fz.ret {S:Sig} {f:Nat→Option (Option (List Nat))} {w:World} {v:Value} {d:D} (h:Fz S.lim w v d):Fz (S.ret f).lim w v d:=h.monoL fun _ _ hs=>Sig.ret_lim hs
theorem Sig.ret_trans {S:Sig} {f:Nat→Option (Option (List Nat))} {w:World} (hw:WF S w) (h0:f 0=none):Trans S w (S.ret f) w∧WF (S.ret f) w:=by
 refine ⟨⟨rfl,rfl,rfl,Nat.le_refl _,fun b _ hn=>⟨rfl,by simp only [Sig.ret,hn]⟩,fun b p l _ hs hd=>⟨rfl,by simp only [Sig.ret,hs,hd,h0]⟩,fun b p l _ hs=>⟨Keeps.refl _ _,fun x hx => ?_⟩,rfl⟩,⟨fun b x hx => ?_,hw.gl.sig fun b hn=>by simp only [Sig.ret,hn]⟩⟩
 ·have:(S.ret f).lim b=some x.2:=by simp only [Sig.lim,hx,Option.map_some]
  have:=Sig.ret_lim this
  simp only [Sig.lim,hs,Option.map_some,Option.some.injEq] at this
  omega
 ·have:(S.ret f).lim b=some x.2:=by simp only [Sig.lim,hx,Option.map_some]
  have:=Sig.ret_lim this
  simp only [Sig.lim] at this
  cases ho:S.own b with
  |none=>rw [ho] at this;cases this
  |some y=>exact hw b y ho
section
variable {S:Sig} {w:World} {f:Nat→Option (Option (List Nat))} {r:Nat}
theorem Rep.ret_keep {pre:List Nat} (hf:f r=some (some pre)) {v:Value} {d:D}:∀ {x:List Nat},d.calm=true→Rep S w ⟨r,x⟩ v d→Rep (S.ret f) w ⟨1,pre++x⟩ v d:=by
 have hown:∀ {x:List Nat} {v:Value} {d:D},d.calm1=true→Rep S w ⟨r,x⟩ v d→Rep (S.ret f) w ⟨1,pre++x⟩ v d:=by
  intro x v d hc hr
  cases hr with
  |fz h=>exact .fz h.ret
  |own g=>
   refine .own ⟨g.mode,g.heap,g.le,g.max,g.size,g.each,by simp only [Sig.ret,g.own,hf],fun k r j d hk hd => ?_⟩
   obtain ⟨u,h1,h2,h3⟩:=g.cells k r j d hk hd
   exact ⟨u,h1,h2,h3.ret⟩
  |@mp _ b clock kd es ents hown hh he hk=>exact .mp (by simp only [Sig.ret,hown,hf]) hh he hk
  |obj=>cases hc
  |ref=>cases hc
  |gref=>cases hc
  |fn=>cases hc
  |agg=>cases hc
  |tup=>cases hc
 have hagg:∀ {x:List Nat} {v:Value} {cs:List D},cs.all D.calm1=true→Rep S w ⟨r,x⟩ v (.agg cs)→Rep (S.ret f) w ⟨1,pre++x⟩ v (.agg cs):=by
  intro x v cs hc hr
  obtain ⟨vs,rfl,h1,h2,h3⟩:=hr.agg_inv
  refine .agg vs h1 h2 fun j d v hd hv => ?_
  have:=hown (List.all_eq_true.1 hc d (gMem hd)) (h3 j d v hd hv)
  simpa [Place.at,List.append_assoc] using this
 intro x hc hr
 cases d with
 |agg cs=>exact hagg hc hr
 |tup ds=>
  obtain ⟨vs,rfl,h1,h3⟩:=hr.tup_inv
  refine .tup vs h1 fun j d v hd hv => ?_
  have hc1:=List.all_eq_true.1 hc d (gMem hd)
  have h4:=h3 j d v hd hv
  have:Rep (S.ret f) w ⟨1,pre++(x ++ [j])⟩ v d:=by
   cases d with
   |agg cs=>exact hagg hc1 h4
   |_=>exact hown hc1 h4
  simpa [Place.at,List.append_assoc] using this
 |any=>exact .fz (.any v)
 |_=>exact hown hc hr
theorem Rep.ret_none (hf:f r=none) {v:Value} {d:D} (hc:d.left=true) (hr:Rep S w ⟨r,[]⟩ v d):Rep (S.ret f) w ⟨r,[]⟩ v d:=by
 have hown:∀ {x:List Nat} {v:Value} {d:D},d.calm1=true→Rep S w ⟨r,x⟩ v d→Rep (S.ret f) w ⟨r,x⟩ v d:=by
  intro x v d hc hr
  cases hr with
  |fz h=>exact .fz h.ret
  |own g=>
   refine .own ⟨g.mode,g.heap,g.le,g.max,g.size,g.each,by simp only [Sig.ret,g.own,hf],fun k r j d hk hd => ?_⟩
   obtain ⟨u,h1,h2,h3⟩:=g.cells k r j d hk hd
   exact ⟨u,h1,h2,h3.ret⟩
  |@mp _ b clock kd es ents hown hh he hk=>exact .mp (by simp only [Sig.ret,hown,hf]) hh he hk
  |obj=>cases hc
  |ref=>cases hc
  |gref=>cases hc
  |fn=>cases hc
  |agg=>cases hc
  |tup=>cases hc
 cases d with
 |obj cs=>
  cases hr with
  |fz h=>cases h
  |@obj _ b _ _ cur e hb hp hl hh hs h1 ih=>
   exact .obj (b:=b) (by simp only [Sig.ret,hb,hf]) rfl hl hh hs h1 fun i d v hd hv=>hown (List.all_eq_true.1 hc d (gMem hd)) (ih i d v hd hv)
 |any=>exact .fz (.any v)
 |_=>exact hown hc hr
theorem Rep.obj_le {p:Place} {v:Value} {cs cs':List D} (h:Rep S w p v (.obj cs)) (hl:DLes cs cs'):Rep S w p v (.obj cs'):=by
 cases h with
 |fz h=>cases h
 |obj hb hp hlo hh hs h1 ih=>
  refine .obj hb hp hlo hh (hl.len.trans hs) h1 fun i d v hd hv => ?_
  have hi:i < cs.length:=by rw [← hl.len];exact (gLt hd)
  exact Rep.le (hl.get (List.getElem?_eq_getElem hi) hd) (ih i _ v (List.getElem?_eq_getElem hi) hv)
theorem frz_calm1 {d:D} (h:d.calm1=true):d.frz=frz1d d:=by
 cases d<;>first|rfl|cases h
theorem Rep.ret_kill (hf:f r=some none) {v:Value} {d:D}:∀ {x:List Nat},d.calm=true→Rep S w ⟨r,x⟩ v d→Fz (S.ret f).lim w v d.frz:=by
 have hown:∀ {x:List Nat} {v:Value} {d:D},d.calm1=true→Rep S w ⟨r,x⟩ v d→Fz (S.ret f).lim w v (frz1d d):=by
  intro x v d hc hr
  cases hr with
  |fz h=>exact h.ret.frz1
  |own g=>
   exact g.fz2 (fun h=>h.ret) rfl fun k _ s hs=>by
    simp only [Sig.lim,Sig.ret,g.own,hf,Option.map_none] at hs
    cases hs
  |mp=>exact .any _
  |obj=>cases hc
  |ref=>cases hc
  |gref=>cases hc
  |fn=>cases hc
  |agg=>cases hc
  |tup=>cases hc
 have hagg:∀ {x:List Nat} {v:Value} {cs:List D},cs.all D.calm1=true→Rep S w ⟨r,x⟩ v (.agg cs)→Fz (S.ret f).lim w v (.agg (cs.map frz1d)):=by
  intro x v cs hc hr
  obtain ⟨vs,rfl,h1,h2,h3⟩:=hr.agg_inv
  refine .agg vs (by simp [h1]) h2 fun j d u hd hu => ?_
  rw [List.getElem?_map] at hd
  cases hcj:cs[j]? with
  |none=>rw [hcj] at hd;cases hd
  |some e=>
   rw [hcj] at hd
   cases hd
   exact hown (List.all_eq_true.1 hc e (gMem hcj)) (h3 j e u hcj hu)
 intro x hc hr
 by_cases h1:d.calm1=true
 ·rw [frz_calm1 h1];exact hown h1 hr
 cases d with
 |agg cs=>exact hagg hc hr
 |tup ds=>
  obtain ⟨vs,rfl,h1,h3⟩:=hr.tup_inv
  refine .tup vs (by simp [h1]) fun j d u hd hu => ?_
  rw [List.getElem?_map] at hd
  cases hcj:ds[j]? with
  |none=>rw [hcj] at hd;cases hd
  |some e=>
   rw [hcj] at hd
   cases hd
   have hc1:=List.all_eq_true.1 hc e (gMem hcj)
   have h4:=h3 j e u hcj hu
   cases e with
   |agg cs=>exact hagg hc1 h4
   |_=>exact hown hc1 h4
 |any=>exact .any v
 |_=>exact absurd hc h1
end
def resOne (tmps:Array Value):ResultVar→_root_.Go.Sem Value
 |.tmp t=>pure (tmps.getD t undef)
 |.cell a t=>do loadVar t (← asAddr (tmps.getD a undef))
theorem results_eq (fn:Func) (tmps:Array Value):results fn tmps=(do
 let vs ← fn.results.mapM (resOne tmps)
 pure (if h:vs.size=1 then vs[0] else .tuple vs)):=by
 unfold results
 congr 1
theorem results_run {P:Program} {tmps:Array Value} {w:World}:∀ {rs:List ResultVar},(∀ r ∈ rs,∃ v,(resOne tmps r).run P w=.ok v w)→∃ vs:List Value,(rs.mapM (resOne tmps)).run P w=.ok vs w∧vs.length=rs.length∧∀ (j:Nat) (r:ResultVar) (v:Value),rs[j]?=some r→vs[j]?=some v→(resOne tmps r).run P w=.ok v w
 |[],_=>⟨[],rfl,rfl,fun j r v h=>by simp at h⟩
 |r::rs,h=>by
  obtain ⟨v,hv⟩:=h r (by simp)
  obtain ⟨vs,h1,h2,h3⟩:=results_run (P:=P) (tmps:=tmps) (w:=w) (rs:=rs) fun r hr=>h r (by simp [hr])
  refine ⟨v::vs,?_,by simp [h2],fun j r' v' hr hv' => ?_⟩
  ·rw [List.mapM_cons,Sem.run_bind,hv,Result.andThen_ok,Sem.run_bind,h1]
   rfl
  ·cases j with
   |zero=>cases hr;cases hv';exact hv
   |succ j=>exact h3 j r' v' (by simpa using hr) (by simpa using hv')
theorem retD_ok {P:Program} {T:Nat→Option TI} {Z:Nat→Option (List Value)} (hT:TOk P T Z) {S:Sig} {w:World} {a:Act} {fr:List D} (h:FR S w a fr) {r:ResultVar} {d:D} (hr:retD T fr r=some d):∃ v,(resOne a.tmps r).run P w=.ok v w∧Rep S w (.slot (slotOf r)) v d:=by
 cases r with
 |tmp t=>
  simp only [retD] at hr
  split at hr
  ·cases hr
  ·cases hr
  ·cases hr
  ·cases hr
  ·rename_i hn1 hn2 hn3 hn4
   obtain ⟨v,hv,hs⟩:=h.at hr
   refine ⟨v,?_,(hs.rep (by cases d<;>first|rfl|exact absurd hr (hn1 _)|exact absurd hr (hn2 _ _)|exact absurd hr (hn3 _ _ _ _ _)|exact absurd hr (hn4 _ _ _ _))).1⟩
   simp only [resOne,Array.getD_eq_getD_getElem?,hv,Option.getD_some]
   rfl
 |cell t ty=>
  simp only [retD] at hr
  split at hr
  ·rename_i cs hd
   obtain ⟨v0,hv0,hs0⟩:=h.at hd
   obtain ⟨b,cur,e,rfl,hb,hloc,hh,hsz,h1,ih⟩:=hs0.1.obj_inv
   have hrun:∀ {v:Value},(loadVar ty ⟨b,0,none⟩).run P w=.ok v w→(resOne a.tmps (.cell t ty)).run P w=.ok v w:=fun hl=>by
    simp only [resOne,Array.getD_eq_getD_getElem?,hv0,Option.getD_some,asAddr,Sem.run_bind,Sem.run_pure,Result.andThen_ok]
    exact hl
   have hcell:∀ i,i < cs.length→w.cell? ⟨b,i,none⟩=some (cur.toList.getD i undef)∧cur[i]?=some (cur.toList.getD i undef):=fun i hi=>by
    have hc:cur[i]?=some (cur.toList.getD i undef):=by
     rw [← Array.getElem?_toList,List.getD_eq_getElem?_getD,List.getElem?_eq_getElem (by simp;omega)]
     rfl
    exact ⟨by rw [cell_of_row w b _ cur e (0,0) hh];exact hc,hc⟩
   split at hr
   ·rename_i n fl ks ht
    split at hr
    ·rename_i hn
     cases hr
     obtain rfl:=Nat.eq_of_beq_eq_true hn
     obtain ⟨dd,k1,k2⟩:=(hT.ty _ _ ht).1.h
     have hl:=run_loadVar_at (P:=P) w b 0 ty cur.toList dd (fun j u hu=>by
      rw [Nat.zero_add,cell_of_row w b _ cur e (0,0) hh]
      simpa using hu) k1 (by cases dd<;>first|rfl|cases k2) (by rw [(hT.ty _ _ ht).1.sz];simp [hsz])
     refine ⟨_,hrun hl,?_⟩
     refine .agg cur.toList (by simp [hsz]) (fun v hv => ?_) fun j d v hj hv => ?_
     ·obtain ⟨i,hi,rfl⟩:=List.mem_iff_getElem.1 hv
      exact h1 i _ (by simp at hi ⊢)
     ·exact ih j d v hj (by simpa using hv)
    ·cases hr
   ·rename_i i hi ht
    haveI:=(hT.ty _ _ ht).one (fun n fl ks e=>hi n fl ks e)
    split at hr
    ·split at hr
     ·rename_i d0 ho
      cases hr
      obtain ⟨k1,k2⟩:=hcell 0 (by simp)
      refine ⟨_,hrun ?_,.fz (D.one_fz (ih 0 d _ rfl k2) ho)⟩
      obtain ⟨dd,q1,q2⟩:=TOne.h (P:=P) (t:=ty)
      unfold loadVar
      rw [Sem.run_bind,run_isAgg_of q1,q2]
      simp [k1]
     ·cases hr
    ·cases hr
   ·cases hr
  ·cases hr
theorem calm_comp {ds:List D} (h:(D.tup ds).calm=true) {j:Nat} {d:D} (hd:ds[j]?=some d):d.calm=true:=by
 have h1:=List.all_eq_true.1 h d (gMem hd)
 cases d with
 |agg cs=>exact h1
 |_=>first|exact h1|cases h1
section
variable {P:Program} {T:Nat→Option TI} {Z:Nat→Option (List Value)} {M:Nat→Bool}
theorem run_intro (hT:TOk P T Z) (hm:P.follows .mixedOrders=true) {f:Nat} {fn:Func} {c:Code} {d:D} {out:Option D} (hf:P.funcs[f]?=some fn) (hb:fn.body=some c) (hcalm:d.calm=true) (hargs:∀ d ∈ args,∀ t,¬ Men t d) (hnt:Nat.ble args.length fn.ntmps=true)
  {rs:List ResultVar} (hrs:fn.results.toList=rs) (hnd:decide (rs.map slotOf).Nodup=true)
  (hout:∀ d',out=some d'→d'.left=true∧(rs.all fun r => !Nat.beq (slotOf r) 0)=true∧∃ cs,args[0]?=some (.obj cs))
  (hv:HT P c (args++List.replicate (fn.ntmps - args.length) .any) fun e fr'=>EndsO T e rs fr' d out):∀ (S:Sig) (w:World) (vs:List Value),WF S w→vs.length=args.length→(∀ (i:Nat) (d:D) (v:Value),args[i]?=some d→vs[i]?=some v→Rep S w (.slot i) v d)→
  Calls P f vs.toArray w fun e w'=>∃ v S',e=.returned v∧WF S' w'∧Trans S w S' w'∧Rep S' w' .res v d∧∀ d' v0,out=some d'→vs[0]?=some v0→Rep S' w' (.slot 0) v0 d':=by
 refine fun S w vs hw hl hr=>calls_of_wp hf hb ?_
 have hF:FR S w { tmps:=vs.toArray++Array.replicate (fn.ntmps - vs.toArray.size) undef,defers := [] } (args++List.replicate (fn.ntmps - args.length) .any):=by
  refine ⟨hw,by simp [hl],rfl,fun i e v hi hv => ?_⟩
  by_cases hia:i < args.length
  ·rw [List.getElem?_append_left hia] at hi
   have hv':vs[i]?=some v:=by
    have:(vs.toArray++Array.replicate (fn.ntmps - vs.toArray.size) undef)[i]?=vs[i]?:=by
     rw [Array.getElem?_append_left (by simpa [hl] using hia)]
     simp
    rw [← this];exact hv
   have hno:=hargs e (gMem hi)
   exact SlotRep.of (hr i e v hi hv') fun t ht=>absurd ht (hno t)
  ·rw [List.getElem?_append_right (by omega)] at hi
   have:=gMem hi
   rw [List.mem_replicate] at this
   rw [this.2]
   exact SlotRep.of (.fz (.any _)) fun t ht=>by cases ht
 refine hv.h S w _ hF _ fun e fr' S' w' a' hk ht hF' => ?_
 obtain ⟨⟨he,hret⟩,ho⟩:=hk
 have left:∀ d' v0,out=some d'→vs[0]?=some v0→Rep S' w' (.slot 0) v0 d':=by
  intro d' v0 hd' hv0
  obtain ⟨_,_,cs0,h0⟩:=hout d' hd'
  subst hd'
  unfold OutOk at ho
  split at ho
  ·rename_i he;cases he
  ·rename_i cs' he
   cases he
   split at ho
   ·rename_i cs hd
    rw [List.head?_eq_getElem?] at hd
    obtain ⟨v1,hv1,hs1⟩:=hF'.at hd
    have h1:v1=.pointer (some ⟨S'.loc 2,0,none⟩):=by
     obtain ⟨b,_,_,rfl,_,hloc,_⟩:=hs1.1.obj_inv
     rw [hloc]
    have h2:v0=.pointer (some ⟨S.loc 2,0,none⟩):=by
     obtain ⟨b,_,_,rfl,_,hloc,_⟩:=(hr 0 _ v0 h0 hv0).obj_inv
     rw [hloc]
    have:v0=v1:=by rw [h1,h2,ht.loc2]
    subst this
    exact hs1.1.obj_le ho
   ·exact ho.elim
  ·exact ho.elim
 obtain ⟨Lft,hLft⟩:∃ L:Sig→Prop,∀ S'',L S''↔(∀ d' v0,out=some d'→vs[0]?=some v0→Rep S'' w' (.slot 0) v0 d'):=⟨_,fun _=>Iff.rfl⟩
 have post:a'.defers = []∧∃ v,(results fn a'.tmps).run P w'=.ok v w'∧∃ v' S'',Ending.returned v=.returned v'∧WF S'' w'∧Trans S w S'' w'∧Rep S'' w' .res v' d∧∀ d' v0,out=some d'→vs[0]?=some v0→Rep S'' w' (.slot 0) v0 d':=by
  refine ⟨hF'.defers,?_⟩
  have hnd':(rs.map slotOf).Nodup:=of_decide_eq_true hnd
  -- which results are handed on with what they own
  have key:∀ (ds:List D) (one:Bool),RetL T fr' rs ds→(∀ (j:Nat) (d:D),ds[j]?=some d→d.calm=true)→(one=true→rs.length=1)→∃ (S'':Sig) (vs:List Value),(results fn a'.tmps).run P w'=.ok (if h:vs.length=1 then vs[0] else .tuple vs.toArray) w'∧vs.length=ds.length∧WF S'' w'∧Trans S' w' S'' w'∧(∀ (j:Nat) (v:Value) (d:D),vs[j]?=some v→ds[j]?=some d→Rep S'' w' ⟨1,if one then [] else [j]⟩ v d)∧Lft S'':=by
   intro ds one hrl hcs hone
   classical
   obtain ⟨hlen,hget⟩:=hrl.get
   have hall:∀ r ∈ rs,∃ v,(resOne a'.tmps r).run P w'=.ok v w':=fun r hr=>by
    obtain ⟨j,hj,rfl⟩:=List.mem_iff_getElem.1 hr
    have hjd:j < ds.length:=by omega
    obtain ⟨d0,h0,_⟩:=hget j _ _ (List.getElem?_eq_getElem hj) (List.getElem?_eq_getElem hjd)
    obtain ⟨v,hv,_⟩:=retD_ok hT hF' h0
    exact ⟨v,hv⟩
   obtain ⟨vs,hvs,hvl,hvj⟩:=results_run (P:=P) hall
   let f:Nat→Option (Option (List Nat)):=fun r=>match rs.findIdx? (fun t=>slotOf t+2 == r) with
    |none=>none
    |some j=>if (∀ t d d0,rs[j]?=some t→ds[j]?=some d→retD T fr' t=some d0→DLe d0 d) then some (some (if one then [] else [j])) else some none
   have hf0:f 0=none:=by
    have:rs.findIdx? (fun t=>slotOf t+2 == 0)=none:=by
     rw [List.findIdx?_eq_none_iff]
     intro t _
     simp
    simp only [f,this]
   have hfj:∀ (j:Nat) (t:ResultVar),rs[j]?=some t→rs.findIdx? (fun t'=>slotOf t'+2 == slotOf t+2)=some j:=fun j t hj=>by
    have hjl:j < rs.length:=(gLt hj)
    have hjt:rs[j]=t:=(List.getElem?_eq_some_iff.1 hj).2
    rw [List.findIdx?_eq_some_iff_getElem]
    refine ⟨hjl,by simp [hjt],fun k hk => ?_⟩
    have hne:=List.pairwise_iff_getElem.1 hnd' k j (by simp;omega) (by simpa using hjl) hk
    simp only [List.getElem_map,hjt] at hne
    simp only [beq_iff_eq,Nat.add_right_cancel_iff]
    simpa using hne
   obtain ⟨t1,w1⟩:=Sig.ret_trans (f:=f) hF'.wf hf0
   have hl:fn.results=rs.toArray:=by rw [← hrs]
   have hrun:(results fn a'.tmps).run P w'=.ok (if h:vs.length=1 then vs[0] else .tuple vs.toArray) w':=by
    rw [results_eq,hl,List.mapM_toArray,Sem.run_bind,Sem.run_map,hvs]
    rfl
   refine ⟨S'.ret f,vs,hrun,by omega,w1,t1,fun j v d hv hd => ?_,(hLft _).2 fun d' v0 hd' hv0 => ?_⟩
   case refine_2=>
    obtain ⟨hleft,hns,_⟩:=hout d' hd'
    have hf2:f 2=none:=by
     have:rs.findIdx? (fun t=>slotOf t+2 == 2)=none:=by
      rw [List.findIdx?_eq_none_iff]
      intro t ht'
      have:=List.all_eq_true.1 hns t ht'
      simp only [Bool.not_eq_true'] at this
      simp only [beq_eq_false_iff_ne,ne_eq]
      intro he
      have hz:slotOf t=0:=by omega
      rw [hz] at this
      cases this
     simp only [f,this]
    exact Rep.ret_none hf2 hleft (left d' v0 hd' hv0)
   have hj:j < rs.length:=by rw [← hvl];exact (gLt hv)
   have hjr:rs[j]?=some rs[j]:=List.getElem?_eq_getElem hj
   obtain ⟨d0,hd0,hle⟩:=hget j _ d hjr hd
   obtain ⟨v',hv',hrep⟩:=retD_ok hT hF' hd0
   have hvv:=hvj j _ v hjr hv
   rw [hv'] at hvv
   cases hvv
   have hfi:=hfj j _ hjr
   by_cases hdle:∀ t d d0,rs[j]?=some t→ds[j]?=some d→retD T fr' t=some d0→DLe d0 d
   ·have hft:f (slotOf rs[j]+2)=some (some (if one then [] else [j])):=by simp only [f,hfi];rw [if_pos hdle]
    have hr1:=Rep.le (hdle _ d d0 hjr hd hd0) hrep
    have:=Rep.ret_keep (r:=slotOf rs[j]+2) (x := []) hft (hcs j d hd) hr1
    simpa using this
   ·have hft:f (slotOf rs[j]+2)=some none:=by simp only [f,hfi];rw [if_neg hdle]
    have hnle:¬ DLe d0 d:=fun h=>hdle fun t' d' d0' h1 h2 h3=>by
     rw [hjr] at h1;cases h1
     rw [hd] at h2;cases h2
     rw [hd0] at h3;cases h3
     exact h
    rcases hle with h|⟨hc0,h⟩
    ·exact absurd h hnle
    ·exact Rep.le h (.fz (Rep.ret_kill (r:=slotOf rs[j]+2) (x := []) hft hc0 hrep))
  unfold RetOk at hret
  split at hret
  ·rename_i t
   obtain ⟨S'',vs,hrun,hvl,w1,t1,hk,hl0⟩:=key [d] true hret (fun j d' hd=>by cases j with|zero=>cases hd;exact hcalm|succ j=>simp at hd) (fun _=>rfl)
   match vs,hvl with
   |[v],_=>exact ⟨_,hrun,_,S'',rfl,w1,ht.trans t1,hk 0 v d rfl rfl,(hLft _).1 hl0⟩
  ·rename_i rs' hne
   split at hret
   ·rename_i ds
    obtain ⟨hlen,_⟩:=hret.get
    obtain ⟨S'',vs,hrun,hvl,w1,t1,hk,hl0⟩:=key ds false hret (fun j d' hd=>calm_comp hcalm hd) (fun e=>by cases e)
    have hn1:¬ vs.length=1:=fun e=>by
     match rs,(show rs.length=1 by omega) with
     |[t],_=>exact hne t rfl
    rw [dif_neg hn1] at hrun
    exact ⟨_,hrun,_,S'',rfl,w1,ht.trans t1,.tup vs hvl fun j d' v hd hv=>hk j v d' hv hd,(hLft _).1 hl0⟩
   ·exact hret.elim
 rcases he with rfl|rfl
 ·exact post
 ·exact post
theorem sem_intro (hT:TOk P T Z) (hm:P.follows .mixedOrders=true) {f:Nat} {fn:Func} {c:Code} {d:D} (hf:P.funcs[f]?=some fn) (hen:Enters P f) (hb:fn.body=some c) (hcalm:d.calm=true) (hargs:(args.all fun d=>d.calm || d.passes)=true) (hnt:Nat.ble args.length fn.ntmps=true)
  {rs:List ResultVar} (hrs:fn.results.toList=rs) (hnd:decide (rs.map slotOf).Nodup=true)
  (hv:forceL (args++List.replicate (fn.ntmps - args.length) .any) fun fr=>vc P T Z M c fr fun e fr'=>Ends T e rs fr' d):Sem P f args d:=by
 refine ⟨hen,hcalm,fun S w vs hw hl hr=>(run_intro (out:=none) hT hm hf hb hcalm (fun d hd t ht => ?_) hnt hrs hnd (fun d' h=>nomatch h) ?_ S w vs hw hl hr).mono fun e w' ⟨v,S',h1,h2,h3,h4,_⟩=>⟨v,S',h1,h2,h3,h4⟩⟩
 ·have hno:=List.all_eq_true.1 hargs d hd
  simp only [Bool.or_eq_true] at hno
  rcases hno with h|h
  ·exact (D.calm_men h ht).elim
  ·exact (D.passes_men h ht).elim
 ·rw [forceL_eq] at hv
  exact ⟨fun S w a hF Q' hQ=>(vc_sound hT hm c hv).h S w a hF Q' fun e fr' S' w' a' k t f=>hQ e fr' S' w' a' ⟨k,trivial⟩ t f⟩
theorem semO_intro (hT:TOk P T Z) (hm:P.follows .mixedOrders=true) {f:Nat} {fn:Func} {c:Code} {cs cs':List D} {d:D} (hf:P.funcs[f]?=some fn) (hen:Enters P f) (hb:fn.body=some c) (hcalm:d.calm=true) (hc:cs.all D.calm1=true) (hc':cs'.all D.calm1=true) (hargs:args.all D.passes=true) (hnt:Nat.ble (args.length+1) fn.ntmps=true)
  {rs:List ResultVar} (hrs:fn.results.toList=rs) (hnd:decide (rs.map slotOf).Nodup=true) (hr0:(rs.all fun r => !Nat.beq (slotOf r) 0)=true)
  (hv:forceL (.obj cs::args++List.replicate (fn.ntmps - (args.length+1)) .any) fun fr=>vc P T Z M c fr fun e fr'=>EndsO T e rs fr' d (some (.obj cs'))):SemO P f (.obj cs) args d (some (.obj cs')):=by
 refine ⟨hen,hcalm,fun d' h=>by cases h;exact hc',fun S w v0 vs hw hr hl hfz => ?_⟩
 rw [forceL_eq] at hv
 have hv':=vc_sound hT hm c hv
 refine (run_intro (args:=.obj cs::args) (out:=some (.obj cs')) hT hm hf hb hcalm (fun d hd t ht => ?_) (by simpa using hnt) hrs hnd (fun d' h=>by cases h;exact ⟨hc',hr0,cs,rfl⟩) (by simpa using hv') S w (v0::vs) hw (by simp [hl]) (fun i d v hd hv => ?_)).mono fun e w' ⟨v,S',h1,h2,h3,h4,h5⟩=>⟨v,S',h1,h2,h3,h4,fun d' hd'=>h5 d' v0 hd' rfl⟩
 ·rcases List.mem_cons.1 hd with rfl|hd
  ·exact D.left_men (d:=.obj cs) hc ht
  ·exact D.passes_men (List.all_eq_true.1 hargs d hd) ht
 ·cases i with
  |zero=>cases hd;cases hv;exact hr
  |succ i=>exact .fz (hfz i d v (by simpa using hd) (by simpa using hv))
end
end Go.Proofs.YtindehjiaknokaaGreatDoor
namespace Go.Proofs.YtindehjiaknokaaGreatDoor
set_option linter.unusedSimpArgs false
set_option linter.unusedVariables false
open Go.RowKit
variable {args ds':List D} {out:Option D}
theorem SPLT:(∀ {α:Type} [BEq α] [LawfulBEq α] {a b:α},(a != b)=true↔a ≠ b)∧(∀ {α:Type} (a b:α),(a ≠ b)=¬ (a=b))∧(∀ {α:Type} [BEq α] [LawfulBEq α] {a b:α},(a != b)=false↔a=b)∧(∀ {α:Type} [BEq α] [LawfulBEq α] {a b:α},(a == b)=true↔a=b)∧
  (∀ {α:Type} [BEq α] [LawfulBEq α] {a b:α},(a == b)=false↔a ≠ b)∧(∀ {p:Prop} [Decidable p],(decide p=true)=p)∧(∀ {p:Prop} [Decidable p],decide p=false↔¬ p)∧(∀ b:Bool,((!b)=true)=(b=false))∧(∀ b:Bool,((!b)=false)=(b=true))∧(∀ a b:Bool,((a && b)=true)=(a=true∧b=true))∧
  (∀ a b:Bool,((a || b)=true)=(a=true∨b=true))∧(∀ {a b:Bool},(a && b)=false↔a=false∨b=false)∧(∀ {a b:Bool},(a || b)=false↔a=false∧b=false)∧(∀ {a b:Int},¬ a < b↔b≤a)∧(∀ {a b:Int},¬ a≤b↔b < a)∧(∀ b:Bool,(¬ (b=true))=(b=false))∧(∀ b:Bool,(¬ (b=false))=(b=true))∧
  (∀ {α β:Type} {as:List α} (f:α→β),(as.map f).length=as.length)∧(∀ {α:Type} (a:α) (as:List α),(a::as).length=as.length+1)∧(∀ {α:Type},([]:List α).length=0):=by
 refine ⟨?_,?_,?_,?_,?_,?_,?_,?_,?_,?_,?_,?_,?_,?_,?_,?_,?_,?_,?_,?_⟩<;>intros<;>first|exact Bool.and_eq_false_iff|exact Bool.or_eq_false_iff|simp
theorem dG {ops:List Oper} {ok:Nat→Bool} {F:Nat→Prop} (h1:ok (effOf ops 0)=true) (h2:F (effOf ops 0)):DrawR ops ok F:=⟨_,h1,h2⟩
theorem DrawR.at {ops:List Oper} {ok:Nat→Bool} {F:Nat→Prop} (d m:Nat) (h0:(match ops with|o::_=>o.dst | []=>none)=some d) (h1:ok m=true) (h2:F m):DrawR ops ok F:=⟨m,h1,h2⟩
theorem rR {T:Nat→Option TI} {rs:List ResultVar} {fr:List D} {d:D} (h:RetOk T rs fr d):Ends T .ret rs fr d:=⟨.inr rfl,h⟩
theorem rE {T:Nat→Option TI} {rs:List ResultVar} {fr:List D} {d:D} (h:RetOk T rs fr d):Ends T .normal rs fr d:=⟨.inl rfl,h⟩
theorem oR {T:Nat→Option TI} {rs:List ResultVar} {fr:List D} {d:D} (h:RetOk T rs fr d) (o:OutOk fr out):EndsO T .ret rs fr d out:=⟨rR h,o⟩
theorem oN {T:Nat→Option TI} {rs:List ResultVar} {fr:List D} {d:D} (h:RetOk T rs fr d) (o:OutOk fr out):EndsO T .normal rs fr d out:=⟨rE h,o⟩
theorem givesl {P:Program} {f:Nat} {d:D} (h:Gives P f args d) (flat:d.flat=true):GivesL P f args d:=⟨flat,h⟩
theorem giveso_g {P:Program} {f:Nat} {d0 d1:D} {d:D} (hs:SemO P f d1 ds' d out) (h:d0=d1∧DLes args ds'∧ds'.all D.passes=true):GivesO P f d0 args d out:=⟨d1,ds',h.1,h.2.1,h.2.2,hs⟩
theorem DLe.of_eq {d d':D} (h:d=d'):DLe d d':=h ▸ .refl d
theorem shr_one {k:IntKind} (p:Int):0≤(1:Int)∧(1:Int)≤k.bits∧p / 2 ^ (1:Int).toNat=p / 2:=⟨by decide,by cases k<;>decide,rfl⟩
theorem rle_refl {d:D}:RLe d d:=.le (.refl d)
theorem rle_int {k:IntKind} {a b:Int} (h:a=b):RLe (.int k a) (.int k b):=h ▸ rle_refl
theorem rle_bool {a b:Bool} (h:a=b):RLe (.bool a) (.bool b):=h ▸ rle_refl
theorem rle_str {a b:List UInt8} (h:a=b):RLe (.str a) (.str b):=h ▸ rle_refl
theorem rle_sl0 {m sz:Nat} {a b:List (List D)} (h:a=b):RLe (.sl m sz a) (.sl 0 sz b):=h ▸ .frz rfl (.refl _)
theorem rle_nil {m sz:Nat} {b:List (List D)} (h:b = []):RLe .nil (.sl m sz b):=by subst h;exact .le (.nil m sz)
inductive LLe:List (List D)→List (List D)→Prop
 |refl (l:List (List D)):LLe l l
 |cons {r r':List D} {l l':List (List D)} (h:DLes r r') (hs:LLe l l'):LLe (r::l) (r'::l')
 |app {a a' b b':List (List D)} (h:LLe a a') (hs:LLe b b'):LLe (a++b) (a'++b')
 |eq {l l':List (List D)} (h:l=l'):LLe l l'
theorem LLe.get {l l':List (List D)} (h:LLe l l'):l'.length=l.length∧∀ (k:Nat) (r r':List D),l[k]?=some r→l'[k]?=some r'→DLes r r':=by
 induction h with
 |refl l=>exact ⟨rfl,fun k r r' h1 h2=>by rw [h1] at h2;cases h2;exact DLes.refl _⟩
 |eq h=>subst h;exact ⟨rfl,fun k r r' h1 h2=>by rw [h1] at h2;cases h2;exact DLes.refl _⟩
 |cons h _ ih=>
  refine ⟨by simp [ih.1],fun k r r' h1 h2 => ?_⟩
  cases k with
  |zero=>cases h1;cases h2;exact h
  |succ k=>exact ih.2 k r r' (by simpa using h1) (by simpa using h2)
 |@app a a' b b' _ _ ih1 ih2=>
  refine ⟨by simp [ih1.1,ih2.1],fun k r r' h1 h2 => ?_⟩
  by_cases hk:k < a.length
  ·rw [List.getElem?_append_left hk] at h1
   rw [List.getElem?_append_left (by rw [ih1.1];exact hk)] at h2
   exact ih1.2 k r r' h1 h2
  ·rw [List.getElem?_append_right (by omega)] at h1
   rw [List.getElem?_append_right (by rw [ih1.1];omega),ih1.1] at h2
   exact ih2.2 _ r r' h1 h2
theorem dle_agg {a b:List D} (h:DLes a b):DLe (.agg a) (.agg b):=.agg h.len fun _ _ _ h1 h2=>h.get h1 h2
theorem rle_agg {a b:List D} (h:DLes a b):RLe (.agg a) (.agg b):=.le (dle_agg h)
theorem dle_int {k:IntKind} {a b:Int} (h:a=b):DLe (.int k a) (.int k b):=h ▸ .refl _
theorem dle_bool {a b:Bool} (h:a=b):DLe (.bool a) (.bool b):=h ▸ .refl _
theorem dle_sl {m sz:Nat} {a b:List (List D)} (h:a=b):DLe (.sl m sz a) (.sl m sz b):=h ▸ .refl _
theorem dle_nil {m sz:Nat} {b:List (List D)} (h:b = []):DLe .nil (.sl m sz b):=by subst h;exact .nil m sz
theorem idx_some {α:Type} {f:α→List D} {l:List α} {j:Int} {x:α} (h0:0≤j) (h:l[j.toNat]?=some x):0≤j∧(l.map f)[j.toNat]?=some (f x):=⟨h0,by rw [List.getElem?_map,h];rfl⟩
theorem idx_nat {α:Type} {f:α→List D} {l:List α} {k:Nat} {x:α} (h:l[k]?=some x):0≤(k:Int)∧(l.map f)[(k:Int).toNat]?=some (f x):=idx_some (by omega) h
theorem idx_eq {α:Type} {f:α→List D} {l:List α} {j:Int} {k:Nat} {x:α} (h:l[k]?=some x) (hj:j=k):0≤j∧(l.map f)[j.toNat]?=some (f x):=by subst hj;exact idx_nat h
def look (i:Nat):List (Nat × D)→D
 |[]=>.any
 |(j,d)::r=>match Nat.beq i j with
  |true=>d
  |false=>look i r
def wrs:Code→List Nat
 |.region _ ops _=>ops.toList.filterMap (·.dst)
 |.seq a b=>wrs a++wrs b
 |.cond _ a b=>wrs a++wrs b
 |.block _ a=>wrs a
 |.loop a=>wrs a
 |_ => []
def mem (i:Nat):List Nat→Bool
 |[]=>false
 |j::r=>match Nat.beq i j with
  |true=>true
  |false=>mem i r
def head (ws:List Nat) (l:List (Nat × D)):Nat→List D→List D
 |_,[] => []
 | i,d::r=>(match mem i ws || mem i (l.map (·.1)) with
  |true=>look i l
  |false=>match d with
   |.al u=>match mem u ws with
    |true=>look i l
    |false=>.al u
   |.alc _ _=>look i l
   |.el _ _ _ _ _=>look i l
   |.es _ _ _ _=>look i l
   | d=>d)::head ws l (i+1) r
section
variable {P:Program} {T:Nat→Option TI} {Z:Nat→Option (List Value)} {M:Nat→Bool}
theorem loop_go (hT:TOk P T Z) (hm:P.follows .mixedOrders=true) {c:Code} {fr:List D} {Q:Exit→List D→Prop} {α:Type} (I:α→List (Nat × D)) (pre:α→Prop) (μ:α→Nat) (x0:α) (h0:forceH (head (wrs c) (I x0) 0 fr) (FLe fr)) (hp0:pre x0)
  (step:∀ x,pre x→forceH (head (wrs c) (I x) 0 fr) fun fr1=>vc P T Z M c fr1 fun e fr'=>match e with
   |.normal=>Halt' (∃ y,pre y∧μ y < μ x∧forceH (head (wrs c) (I y) 0 fr) (FLe fr'))
   | e=>Q e fr'):HT P (.loop c) fr Q:=by
 simp only [forceH_eq] at h0 step
 exact vc_loop hT hm (fun x=>head (wrs c) (I x) 0 fr) pre μ x0 h0 hp0 step
end
/-! Closers: each is tried where it is named. -/
theorem DLes.au {a b:List D} (h:DLes a b:=by first|exact DLes.refl _|((repeat (first|exact DLes.nil|((apply DLes.cons);(focus (first|exact DLe.refl _|exact DLe.own _ _|exact DLe.nil _ _|exact DLe.any _)))));(first|done|fail))):DLes a b:=h
theorem pre {p:Prop} (h:p:=by first|exact rfl|assumption|omega|(simp;omega)|(simp;(first|done|fail))):p:=h
theorem preO {p:Prop} (h:p:=by first|(refine ⟨?_,?_,?_⟩;(focus (first|exact rfl|(simp;done)));(focus exact DLes.au);exact rfl)|exact rfl|assumption|omega|(simp;omega)|(simp;(first|done|fail))):p:=h
theorem side {p:Prop} (h:p:=by first|exact idx_nat (by assumption)|exact idx_some (by omega) (by assumption)|exact idx_eq (by assumption) (by omega)|exact shr_one _|exact IntWalk.i64_in _ (by omega)|exact IntWalk.u8_in _ (by omega)|exact ⟨by omega,IntWalk.i64_quo _ _ ⟨by omega,by omega,by omega⟩⟩|exact ⟨by omega,IntWalk.rem_in _ _ (by omega)⟩|exact IntWalk.u64_in _ (by omega)|exact IntWalk.i32_in _ (by omega)|exact rfl|exact ⟨by omega,rfl⟩|exact ⟨by omega,(by decide),IntWalk.i64_in _ (by omega)⟩|exact ⟨by omega,(by decide),rfl⟩|exact ⟨by omega,(by show _≤(64:Int);omega),rfl⟩|exact ⟨rfl,rfl⟩|assumption|exact ⟨by omega,by omega⟩|exact ⟨by omega,by simp;omega⟩|omega|exact ⟨rfl,rfl,by simp only [List.length_map,List.length_append,List.length_cons,List.length_nil];omega⟩|exact ⟨rfl,rfl,by simp;omega⟩|exact ⟨rfl,rfl,by omega⟩|exact ⟨rfl,by simp;omega⟩|exact id|(intro h;simp [h];done)|((repeat (first|exact trivial|exact rfl|apply And.intro));done)|(simp;omega)|(refine ⟨?_,?_,?_⟩<;>first|omega|(simp;done)|(simp;omega))|(simp_all;(first|done|fail))):p:=h
theorem sideG {p:Prop} (h:p:=by first|exact idx_nat (by assumption)|exact idx_some (by omega) (by assumption)|exact idx_eq (by assumption) (by omega)|exact shr_one _|exact IntWalk.i64_in _ (by omega)|exact IntWalk.u8_in _ (by omega)|exact ⟨by omega,IntWalk.i64_quo _ _ ⟨by omega,by omega,by omega⟩⟩|exact ⟨by omega,IntWalk.rem_in _ _ (by omega)⟩|exact IntWalk.u64_in _ (by omega)|exact IntWalk.i32_in _ (by omega)|exact rfl|exact ⟨by omega,rfl⟩|exact ⟨by omega,(by decide),IntWalk.i64_in _ (by omega)⟩|exact ⟨by omega,(by decide),rfl⟩|exact ⟨by omega,(by show _≤(64:Int);omega),rfl⟩|exact ⟨rfl,rfl⟩|assumption|exact ⟨by omega,by omega⟩|exact ⟨by omega,by simp;omega⟩|omega|exact ⟨rfl,rfl,by simp only [List.length_map,List.length_append,List.length_cons,List.length_nil];omega⟩|exact ⟨rfl,rfl,by simp;omega⟩|exact ⟨rfl,rfl,by omega⟩|exact ⟨rfl,by simp;omega⟩|exact id|(intro h;simp [h];done)|((repeat (first|exact trivial|exact rfl|apply And.intro));done)|(simp;omega)|(refine ⟨?_,?_,?_⟩<;>first|omega|(simp;done)|(simp;omega))|exact hc0|exact ⟨hc0,hc0⟩|exact ⟨hc0,hc0,hc0⟩|(simp only [Bool.and_eq_true] at hc0;simp [hc0];done)|(simp_all;(first|done|fail))):p:=h
theorem noB {p:Prop} (h:p:=by first|contradiction|exact absurd hb (by assumption)|exact absurd (by assumption) hb|(exfalso;omega)|(exfalso;simp at hb;(first|done|fail))):p:=h
theorem endR {p:Prop} (h:p:=by first|exact trivial|exact DLes.nil|with_reducible exact DLe.refl _|exact DLe.any _|with_reducible exact rle_refl|exact rle_bool rfl|exact rle_int rfl|exact rle_nil rfl|exact rle_sl0 rfl):p:=h
theorem endF {p:Prop} (h:p:=by first|exact DLes.nil|with_reducible exact DLe.refl _|exact DLe.any _):p:=h
theorem endF2 {p:Prop} (h:p:=by first|exact DLe.refl _|exact dle_int (by omega)|exact dle_nil rfl|exact DLe.own _ _):p:=h
theorem gx {P:Program} {f:Nat} {d:D} {G:Prop} (hs:Sem P f ds' d) (k:Gives P f args d→G:=by first|exact id|exact fun h=>givesl h rfl) (hl:DLes args ds':=by exact DLes.au) (hp:ds'.all D.passes=true:=by exact rfl):G:=k ⟨ds',hl,hp,hs⟩
theorem and0 {p q:Prop} (h2:q) (h1:p:=by first|exact hc0|exact ⟨hc0,hc0⟩|exact ⟨hc0,hc0,hc0⟩):p∧q:=⟨h1,h2⟩
/-! short names -/
theorem eN {F:Int→Prop} {r:Int} (h:F r):NumE F:=⟨r,h⟩
theorem eI {F:List D→Prop} {r:List D} (h:F r):IdxE F:=⟨r,h⟩
theorem eT {F:List UInt8→Prop} {s:List UInt8} (h:F s):TextE F:=⟨s,h⟩
theorem eC {F:D→Prop} {d:D} (h:F d):CallE F:=⟨d,h⟩
theorem cD {b:Bool} {x y:Prop} (t:b=true→x) (f:b=false→y):CondD b x y:=⟨t,f⟩
theorem sD {s q:Prop} (side:s) (rest:q):SideD s q:=⟨side,rest⟩
theorem rH {p:Prop} (h:p):Halt' p:=⟨h⟩
theorem kB {b:Bool} {F:Prop} (h1:b=true) (h2:F):KerB b F:=⟨h1,h2⟩
theorem dC {d d':D} {ds:List D} (h:DLe d d') (hs:DLes ds ds'):DLes (d::ds) (d'::ds'):=.cons h hs
theorem finR {p:Prop} (h:p:=by repeat' ((conv=>whnf);first|exact endR|(with_reducible first|apply And.intro|apply oR|apply oN|apply DLes.cons))):p:=h
theorem finF {p:Prop} (h:p:=by (conv=>whnf);refine ⟨?_,by rfl⟩;repeat' ((conv=>whnf);first|exact endF|exact endF2|with_reducible apply DLes.cons)):p:=h
end Go.Proofs.YtindehjiaknokaaGreatDoor
namespace Go.Proofs.YtindehjiaknokaaGreatDoor
set_option linter.unusedSimpArgs false
set_option linter.unusedVariables false
open Go.RowKit
variable {args:List D} {rows:List (List D)}
theorem made_rows {S:Sig} {w w':World} (hw:WF S w) (hx:Below w.heap.size w w') {v:Value} {sz:Nat} {news:List Value} {t:TypeId} (hall:∀ r ∈ rows,r.length=sz) (h1:∀ u ∈ news,u.oneCell'=true)
  (hk:∀ (k:Nat) (r:List D) (j:Nat) (d:D),rows[k]?=some r→r[j]?=some d→∃ u,news[k * sz+j]?=some u∧Fz S.lim w u d) (ho:w'.ownsRow w.heap.size t sz v rows.length news):∃ S',WF S' w'∧Trans S w S' w'∧Rep S' w' .res v (.sl 2 sz rows):=by
 have hx':Ext w w':=hx
 have hp:=PT.ext' hw hx'
 rcases ho.2 with ⟨rfl,h0⟩|⟨g,cap,cur,rfl,hb,hg,hnc,hcm,hcs,ht⟩
 ·have:rows = []:=List.eq_nil_of_length_eq_zero h0
  subst this
  exact ⟨S,hp.wf,hp.trans,.fz (.slNil 2 sz)⟩
 ·have hlt:g < w'.heap.size:=(Array.getElem?_eq_some_iff.1 hg).1
  have hne:∀ b,b < w.heap.size→b ≠ g:=fun b h e=>by omega
  have hq:PT S w (S.set g (some (.res,0))) w':=⟨hx',fun b h=>Sig.set_ne _ _ (hne b h),rfl,⟨fun b x hb'=>by
   by_cases hbg:b=g
   ·subst hbg;exact hlt
   ·rw [Sig.set_ne _ _ hbg] at hb'
    exact hp.wf b x hb',hw.gl.keep fun b h hn=>⟨hx'.block h,(Sig.set_ne _ _ (hne b h)).trans hn⟩⟩⟩
  refine ⟨_,hq.wf,hq.trans,.own ⟨.inr rfl,hg,hnc,hcm,hcs,hall,by rw [Sig.set_at];rfl,fun k r j d hk' hd => ?_⟩⟩
  obtain ⟨u,u1,u2⟩:=hk k r j d hk' hd
  refine ⟨u,?_,h1 u (gMem u1),u2.trans hq.trans⟩
  have hkl:k < rows.length:=(List.getElem?_eq_some_iff.1 hk').1
  have hj:j < sz:=by rw [← hall r (gMem hk')];exact (gLt hd)
  have hlt2:k * sz+j < rows.length * sz:=by
   have:(k+1) * sz≤rows.length * sz:=Nat.mul_le_mul_right _ hkl
   rw [Nat.add_mul] at this
   omega
  rw [← ht,List.getElem?_take,if_pos hlt2,Array.getElem?_toList] at u1
  exact u1
theorem DrawI.at {ops:List Oper} {n:Nat} {F:List (List Bool)→Prop} (d:Nat) (L:List (List Bool)) (h0:(match ops with|o::_=>o.dst | []=>none)=some d) (h1:okI ops n L=true) (h2:F L):DrawI ops n F:=⟨L,h1,h2⟩
theorem Sem.frozen {P:Program} {f sz:Nat} (h:Sem P f args (.sl 2 sz rows)):Sem P f args (.sl 0 sz rows):=by
 refine ⟨h.1,rfl,fun S w vs hw hl hr=>(h.2.2 S w vs hw hl hr).mono fun e w' ⟨v,S',he,hw',ht,hrep⟩ => ?_⟩
 rcases hrep.sl_inv with ⟨rfl,rfl⟩|⟨b,cap,cur,e0,rfl,g⟩
 ·exact ⟨_,S',he,hw',ht,.fz (.slNil 0 sz)⟩
 ·have hown:=g.own
  rw [if_pos rfl] at hown
  have t2:Trans S' w' (S'.set b (some (.res,rows.length * sz))) w':=by
   refine ⟨rfl,rfl,rfl,Nat.le_refl _,fun b' _ hn=>⟨rfl,?_⟩,fun b' p l _ hp hd=>⟨rfl,?_⟩,fun b' p l _ hp=>⟨Keeps.refl _ _,fun x hx => ?_⟩,rfl⟩
   ·have hne:b' ≠ b:=fun e=>by subst e;rw [hown] at hn;cases hn
    rw [S'.set_ne _ hne];exact hn
   ·have hne:b' ≠ b:=fun e=>by subst e;rw [hown] at hp;cases hp;simp [Place.res] at hd
    rw [S'.set_ne _ hne];exact hp
   ·by_cases hne:b'=b
    ·subst hne
     rw [hown] at hp
     cases hp
     exact Nat.zero_le _
    ·rw [S'.set_ne _ hne,hp] at hx
     cases hx
     exact Nat.le_refl _
  have w2:WF (S'.set b (some (.res,rows.length * sz))) w':=hw'.of t2 fun b' x hx=>by
   by_cases hne:b'=b
   ·subst hne;exact hw' _ _ hown
   ·rw [S'.set_ne _ hne] at hx;exact hw' _ _ hx
  have g2:OwnAt (S'.set b (some (.res,rows.length * sz))) w' .res b cap 1 sz rows cur e0:=⟨.inl rfl,g.heap,g.le,g.max,g.size,g.each,by rw [S'.set_at];rfl,fun k r j d hk hd=>by
   obtain ⟨u,u1,u2,u3⟩:=g.cells k r j d hk hd
   exact ⟨u,u1,u2,u3.trans t2⟩⟩
  exact ⟨_,_,he,w2,ht.trans t2,.fz g2.fz⟩
theorem Fz.len {lim:Nat→Option Nat} {w:World} {v:Value} {m sz:Nat} (h:Fz lim w v (.sl m sz rows)):rows.length≤9223372036854775807:=by
 cases h with
 |slNil=>simp
 |slE=>simp
 |sl cv hc hm=>exact Nat.le_trans hc hm
theorem Rep.len {S:Sig} {w:World} {p:Place} {v:Value} {m sz:Nat} (h:Rep S w p v (.sl m sz rows)):rows.length≤9223372036854775807:=by
 cases h with
 |fz h=>exact h.len
 |own g=>exact Nat.le_trans g.le g.max
theorem sem_len {P:Program} {f:Nat} [hen:Enters P f] {d:D} (i:Nat) {m sz:Nat} (hi:args[i]?=some (.sl m sz rows)) (hc:d.calm=true) (h:rows.length≤9223372036854775807→Sem P f args d):Sem P f args d:=
 ⟨hen,hc,fun S w vs hw hl hr=>by
  have hlt:i < vs.length:=by rw [hl];exact (gLt hi)
  exact (h (hr i _ _ hi (List.getElem?_eq_getElem hlt)).len).2.2 S w vs hw hl hr⟩
theorem sem_lenA {P:Program} {f:Nat} [hen:Enters P f] {d:D} (i j:Nat) {m sz:Nat} {cs:List D} (hi:args[i]?=some (.agg cs)) (hj:cs[j]?=some (.sl m sz rows)) (hc:d.calm=true) (h:rows.length≤9223372036854775807→Sem P f args d):Sem P f args d:=
 ⟨hen,hc,fun S w vs hw hl hr=>by
  have hlt:i < vs.length:=by rw [hl];exact (gLt hi)
  obtain ⟨us,_,h2,_,h4⟩:=(hr i _ _ hi (List.getElem?_eq_getElem hlt)).agg_inv
  have hlj:j < us.length:=by rw [h2];exact (gLt hj)
  exact (h (h4 j _ _ hj (List.getElem?_eq_getElem hlj)).len).2.2 S w vs hw hl hr⟩
end Go.Proofs.YtindehjiaknokaaGreatDoor
namespace Go.Proofs.YtindehjiaknokaaGreatDoor
set_option linter.unusedSimpArgs false
set_option linter.unusedVariables false
open Go.RowKit
section
variable {c:UInt8}
def partsAt (c:UInt8):List UInt8→List (List UInt8)
 |[] => [[]]
 |b::r=>if b=c then []::partsAt c r else match partsAt c r with
  |[] => [[b]]
  |h::t=>(b::h)::t
theorem parts_none:∀ {s:List UInt8},c ∉ s→partsAt c s = [s]
 |[],_=>rfl
 |b::r,h=>by
  simp only [List.mem_cons,not_or] at h
  rw [partsAt,if_neg (Ne.symm h.1),parts_none h.2]
theorem parts_app:∀ {a:List UInt8} (r:List UInt8),c ∉ a→partsAt c (a++c::r)=a::partsAt c r
 |[],r,_=>by rw [List.nil_append,partsAt,if_pos rfl]
 |b::a,r,h=>by
  simp only [List.mem_cons,not_or] at h
  rw [List.cons_append,partsAt,if_neg (Ne.symm h.1),parts_app r h.2]
theorem parts_ne:∀ s,partsAt c s ≠ []
 |[]=>by simp [partsAt]
 |b::r=>by
  rw [partsAt]
  split
  ·simp
  ·split<;>simp
theorem cut_at {s:List UInt8} {i:Nat} (h:Lib.indexByte s c=i):c ∉ s.take i∧s=s.take i++c::s.drop (i+1):=by
 obtain ⟨h1,h2⟩:=Lib.indexByte_some h
 refine ⟨fun hm => ?_,?_⟩
 ·obtain ⟨k,hk⟩:=List.mem_iff_getElem?.1 hm
  rw [List.getElem?_take] at hk
  split at hk
  ·rename_i hlt
   exact h2 k hlt hk
  ·cases hk
 ·obtain ⟨hlt,he⟩:=List.getElem?_eq_some_iff.1 h1
  have:=List.drop_eq_getElem_cons hlt
  rw [he] at this
  rw [← this,List.take_append_drop]
theorem splitK_parts:∀ (k:Nat) (s:List UInt8),s.count c≤k→Lib.splitK [c] 0 k s=partsAt c s
 |0,s,h=>by
  rw [Lib.splitK,parts_none]
  intro hm
  have:=List.count_pos_iff.2 hm
  omega
 |k+1,s,h=>by
  rw [Lib.splitK,Lib.index_one]
  split
  ·rename_i he
   rw [parts_none]
   intro hm
   obtain ⟨j,hj⟩:=List.mem_iff_getElem?.1 hm
   exact Lib.indexByte_none (beq_iff_eq.1 he) j hj
  ·rename_i he
   have hge:=Lib.indexByte_ge s c
   obtain ⟨i,hi⟩:∃ i:Nat,Lib.indexByte s c=i:=⟨(Lib.indexByte s c).toNat,by
    have:Lib.indexByte s c ≠ -1:=fun e=>he (beq_iff_eq.2 e)
    omega⟩
   obtain ⟨h1,h2⟩:=cut_at hi
   rw [hi]
   simp only [Int.toNat_natCast,Nat.add_zero,List.length_cons,List.length_nil,Nat.zero_add]
   rw [splitK_parts k (s.drop (i+1)) (by rw [h2,List.count_append,List.count_cons_self] at h;omega)]
   conv=>rhs;rw [h2]
   rw [parts_app _ h1]
theorem split_parts (s:ByteArray):(Lib.splitB ⟨#[c]⟩ 0 (Lib.countB s ⟨#[c]⟩) s).map (·.data.toList)=partsAt c s.data.toList:=by
 rw [Lib.splitB_data]
 exact splitK_parts _ _ (by rw [show Lib.countB s ⟨#[c]⟩=s.data.toList.count c from Lib.count_one c _];exact Nat.le_refl _)
theorem parts_len:∀ s:List UInt8,(partsAt c s).length≤s.length+1
 |[]=>by simp [partsAt]
 |b::r=>by
  have ih:=parts_len r
  rw [partsAt]
  split
  ·simp only [List.length_cons];omega
  ·cases hw:partsAt c r with
   |nil=>simp
   |cons h t=>
    rw [hw] at ih
    simp only [List.length_cons] at ih ⊢
    omega
end
variable {S S':Sig} {b:Nat} {cur cur':Array Value} {e:TypeId} {w w':World}
def Mine (S:Sig) (w:World) (b:Nat):Prop:=b < w.heap.size→∃ p l,S.own b=some (p,l)∧p.r ≠ 0
theorem Mine.of (t:Trans S w S' w') {p:Place} {l:Nat} (ho:S'.own b=some (p,l)) (hp:p.r ≠ 0):Mine S w b:=fun hb=>by
 cases h:S.own b with
 |none=>
  have:=(t.free b hb h).2
  rw [ho] at this;cases this
 |some x=>
  obtain ⟨q,k⟩:=x
  refine ⟨q,k,rfl,fun hq => ?_⟩
  have:=(t.foreign b q k hb h hq).2
  rw [ho] at this
  cases this
  exact hp hq
theorem Mine.back (t:Trans S w S' w') (h:Mine S' w' b):Mine S w b:=fun hb=>by
 obtain ⟨p,l,h1,h2⟩:=h (Nat.lt_of_lt_of_le hb t.size)
 exact Mine.of t h1 h2 hb
theorem Mine.new (h:w.heap.size≤w'.heap.size):Mine S w w'.heap.size:=fun hb=>by omega
theorem Trans.name (t:Trans S w S' w') (hm:Mine S w b) {q q':Place} {m:Nat} (ho:S'.own b=some (q,0)):Trans S w (S'.set b (some (q',m))) w':=by
 refine ⟨t.os,t.tape,t.output,t.size,fun b' hb hn => ?_,fun b' p l hb hs hr => ?_,fun b' p l hb hs => ?_,t.loc2⟩
 ·have hne:b' ≠ b:=fun e=>by
   subst e
   obtain ⟨p,l,h1,_⟩:=hm hb
   rw [hn] at h1;cases h1
  rw [S'.set_ne _ hne]
  exact t.free b' hb hn
 ·have hne:b' ≠ b:=fun e=>by
   subst e
   obtain ⟨p',l',h1,h2⟩:=hm hb
   rw [hs] at h1;cases h1
   exact h2 hr
  rw [S'.set_ne _ hne]
  exact t.foreign b' p l hb hs hr
 ·obtain ⟨h1,h2⟩:=t.held b' p l hb hs
  refine ⟨h1,fun x hx => ?_⟩
  by_cases hne:b'=b
  ·subst hne
   have:=h2 _ ho
   omega
  ·rw [S'.set_ne _ hne] at hx
   exact h2 x hx
structure Writes (w w':World) (b:Nat) (cur cur':Array Value) (e:TypeId):Prop where
 os:w'.os=w.os
 tape:w'.tape=w.tape
 output:w'.output=w.output
 size:w'.heap.size=w.heap.size
 other:∀ b',b' ≠ b→w'.heap[b']?=w.heap[b']?
 was:w.heap[b]?=some (.cells cur e (0,0))
 now:w'.heap[b]?=some (.cells cur' e (0,0))
 same:cur'.size=cur.size
theorem Trans.write {w1 w2:World} (t:Trans S w S' w1) (hm:Mine S w b) {q:Place} (ho:S'.own b=some (q,0)) (h:Writes w1 w2 b cur cur' e):Trans S w S' w2:=by
 refine ⟨h.os.trans t.os,h.tape.trans t.tape,h.output.trans t.output,by rw [h.size];exact t.size,fun b' hb hn => ?_,fun b' p l hb hs hr => ?_,fun b' p l hb hs => ?_,t.loc2⟩
 ·have hne:b' ≠ b:=fun e=>by
   subst e
   obtain ⟨p,l,h1,_⟩:=hm hb
   rw [hn] at h1;cases h1
  rw [h.other b' hne]
  exact t.free b' hb hn
 ·have hne:b' ≠ b:=fun e=>by
   subst e
   obtain ⟨p',l',h1,h2⟩:=hm hb
   rw [hs] at h1;cases h1
   exact h2 hr
  rw [h.other b' hne]
  exact t.foreign b' p l hb hs hr
 ·obtain ⟨h1,h2⟩:=t.held b' p l hb hs
  refine ⟨?_,h2⟩
  by_cases hne:b'=b
  ·subst hne
   have hl:=h2 _ ho
   intro c0 e0 fz hc
   obtain ⟨c1,k1,k2,_⟩:=h1 c0 e0 fz hc
   rw [h.was] at k1
   cases k1
   exact ⟨cur',h.now,h.same.trans k2,fun off ho=>by omega⟩
  ·rw [h.other b' hne]
   exact h1
theorem WF.write (hw:WF S w) {q:Place} (ho:S.own b=some (q,0)) (h:Writes w w' b cur cur' e):WF S w':=
 ⟨fun b' x hx=>by rw [h.size];exact hw b' x hx,hw.gl.keep fun b' _ hn=>⟨h.other b' (fun e=>by subst e;rw [ho] at hn;cases hn),hn⟩⟩
theorem Fz.write {q:Place} (ho:S.own b=some (q,0)) (h:Writes w w' b cur cur' e) {v:Value} {d:D} (hf:Fz S.lim w v d):Fz S.lim w' v d:=by
 have hl:S.lim=(S.set b (some (.res,0))).lim:=by
  funext b'
  by_cases hb:b'=b
  ·subst hb;simp [Sig.lim,S.set_at,ho]
  ·simp [Sig.lim,S.set_ne _ hb]
 have hr:(S.set b (some (.res,0))).own b=some (.res,0):=by rw [S.set_at]
 have t:Trans (S.set b (some (.res,0))) w (S.set b (some (.res,0))) w':=
  (Trans.refl _ w).write (fun _=>⟨_,_,hr,by simp [Place.res]⟩) hr h
 rw [hl] at hf ⊢
 exact hf.trans t
theorem WF.name (hw:WF S w) {x y:Place × Nat} (ho:S.own b=some x):WF (S.set b (some y)) w:=
 ⟨fun b' z hz=>by
  by_cases hb:b'=b
  ·subst hb;exact hw b' x ho
  ·rw [S.set_ne _ hb] at hz;exact hw b' z hz,hw.gl.keep fun b' _ hn=>⟨rfl,by
  by_cases hb:b'=b
  ·subst hb;rw [ho] at hn;cases hn
  ·rw [S.set_ne _ hb];exact hn⟩⟩
theorem PT.name (hw:WF S w) (h:PT S w S' w') {x:Place × Nat} (h0:w.heap.size≤b) (h1:b < w'.heap.size):PT S w (S'.set b (some x)) w':=
 ⟨h.ext,fun b' hb=>(S'.set_ne _ (by omega)).trans (h.own b' hb),h.loc,fun b' y hy=>by
  by_cases hb:b'=b
  ·subst hb;exact h1
  ·rw [S'.set_ne _ hb] at hy;exact h.wf b' y hy,hw.gl.keep fun b' hb hn=>⟨h.ext.block hb,by rw [S'.set_ne _ (by omega),h.own b' hb];exact hn⟩⟩
theorem PT.write {w1 w2:World} (hw:WF S w) (h:PT S w S' w1) (h0:w.heap.size≤b) (hwr:Writes w1 w2 b cur cur' e):PT S w S' w2:=
 ⟨⟨hwr.os.trans h.ext.os,hwr.tape.trans h.ext.tape,hwr.output.trans h.ext.output,by rw [hwr.size];exact h.ext.sizeOf,fun b' hb=>(hwr.other b' (by omega)).trans (h.ext.block hb)⟩,h.own,h.loc,fun b' y hy=>by rw [hwr.size];exact h.wf b' y hy,hw.gl.keep fun b' hb hn=>⟨(hwr.other b' (by omega)).trans (h.ext.block hb),by rw [h.own b' hb];exact hn⟩⟩
theorem Writes.row (hh:w.heap[b]?=some (.cells cur e (0,0))) (cur':Array Value) (hs:cur'.size=cur.size):Writes w (w.setRow b cur') b cur cur' e:=
 ⟨rfl,rfl,rfl,by simp [World.setRow],fun b' hb=>setRow_other w b b' _ hb,hh,setRow_heap w b cur _ e (0,0) hh,hs⟩
end Go.Proofs.YtindehjiaknokaaGreatDoor
