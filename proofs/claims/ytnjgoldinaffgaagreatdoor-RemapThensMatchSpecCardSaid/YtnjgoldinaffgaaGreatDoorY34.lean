/- Two maps, one behind the other: the tables of both, as the program finds them: by hand. -/
import Derived.Test.YtnjgoldinaffgaaGreatDoorY30
namespace Go.Proofs.YtnjgoldinaffgaaGreatDoor
open _root_.Go.Proofs.Tryz
set_option linter.unusedSimpArgs false
set_option linter.unusedVariables false
open Go.RowKit
set_option maxRecDepth 100000
set_option maxHeartbeats 4000000
theorem zBB:zM4:=by
 intro a b ha hb9 hta htb
 have k1:=dO hta
 have k2:=dO htb
 obtain ⟨an,atb,asx⟩:=a
 obtain ⟨bn,btb,bs⟩:=b
 dsimp only at k1 k2
 generalize hq:dI atb btb=r
 unfold Mp.row
 dsimp only
 refine ⟨inferInstance,rfl,fun S w vs hw hvl hr => ?_⟩
 obtain ⟨v0,v1,rfl⟩:∃ v v',vs = [v,v']:=by
  match vs,hvl with
  |[v,v'],_=>exact ⟨v,v',rfl⟩
 obtain ⟨us,rfl,hul,hua1,iha⟩:=((hr 0 _ v0 rfl rfl).passes rfl).agg_inv
 obtain ⟨us',rfl,hul',hub1,ihb⟩:=((hr 1 _ v1 rfl rfl).passes rfl).agg_inv
 obtain ⟨a0,a1,a2,rfl⟩:∃ x y z,us = [x,y,z]:=by
  match us,hul with
  |[x,y,z],_=>exact ⟨x,y,z,rfl⟩
 obtain ⟨b0,b1,b2,rfl⟩:∃ x y z,us' = [x,y,z]:=by
  match us',hul' with
  |[x,y,z],_=>exact ⟨x,y,z,rfl⟩
 have fa:=iha 1 _ a1 rfl rfl
 have fb:=ihb 1 _ b1 rfl rfl
 clear iha ihb hr hul hul' hvl
 obtain ⟨A,ca,hAe⟩:=fa.sl_val
 obtain ⟨B,cb,hBe⟩:=fb.sl_val
 rw [List.length_map] at hAe hBe
 subst hAe hBe
 have hall:∀ o ∈ dK [] atb,o.rows.length≤500∧jI o.name:=by
  have key:∀ (l all:List Tb),(∀ o ∈ l,o.rows.length≤500∧jI o.name)→(∀ o ∈ all,o.rows.length≤500∧jI o.name)→∀ o ∈ dK all l,o.rows.length≤500∧jI o.name:=by
   intro l
   induction l with
   |nil=>intro all _ h;exact h
   |cons x l ih=>
    intro all h1 h2
    refine ih (cI x all) (fun o ho=>h1 o (by simp [ho])) fun o ho => ?_
    rcases mC ho with rfl|ho
    ·exact h1 _ (by simp)
    ·exact h2 o ho
  exact key atb [] (fun o ho=>⟨(k1.2.2 o ho).2,(ha.tables o ho).name⟩) (by simp)
 go_enter func14,ntmps14
 repeat' (first|((with_reducible apply wp_seq_k);intro K hK)|(simp only [Exit.then,Exit.inBlock,↓reduceIte,Nat.reduceEqDiff])|(with_reducible first|apply wp_block|apply wp_skip|apply wp_exit)|((with_reducible apply wp_cond_true);exact rfl)|((with_reducible apply wp_cond_false);exact rfl)|(((with_reducible apply wp_cond_split);exact rfl)<;>intro hb<;>(try simp only [aA] at hb)<;>(try (have hbl:=And.left hb;have hbr:=And.right hb))<;>(try (have hbll:=And.left hbl;have hblr:=And.right hbl))<;>(try exact spE))|((with_reducible apply (wp_region_lit (id:=0)));((apply zIY);exact rfl;intro g2 w2 hb2 hx2 hg2;(try simp only [SS,Nat.reduceAdd]));((apply zIY);exact rfl;intro g3 w3 hb3 hx3 hg3;(try simp only [SS,Nat.reduceAdd]));((apply dA);exact jF;(try simp only [SS,Nat.reduceAdd]));((apply dA);exact jF;(try simp only [SS,Nat.reduceAdd]));(apply wpList_nil))|((fail_if_success with_reducible first|apply aQ|apply dS|apply fM|apply dR);go_step))
 with_reducible apply (wp_region_lit (id:=1))
 refine wpList_plain rfl fun K1 hK1=>zAX (hK1 _ _ ?_)
 (try simp only [SS,Nat.reduceAdd])
 (apply dA);exact jF;(try simp only [SS,Nat.reduceAdd])
 have hx3':=hx2.trans hx3
 have hm0:(w3.alloc (.map #[] 0)).heap[w3.heap.size]?=some (.map #[] 0):=(MapKept.heap_alloc w3 (.map #[] 0)).1
 have hx4:Ext w3 (w3.alloc (.map #[] 0)):=Ext.alloc _ _
 generalize w3.alloc (.map #[] 0)=w4 at hm0 hx4 ⊢
 obtain ⟨m,hm⟩:∃ m,m=w3.heap.size:=⟨_,rfl⟩
 rw [← hm] at hm0 ⊢
 have hnew:w.heap.size≤m:=by rw [hm];exact hx3'.sizeOf
 have hst:TSt S w g2 g3 m #[a0,.slice A atb.length ca,a2] #[b0,.slice B btb.length cb,b2] [] (S.set m (some (⟨0,[1]⟩,0))) w4:=by
  refine ⟨PT.name hw (PT.ext' hw (hx3'.trans hx4)) hnew (Array.getElem?_eq_some_iff.1 hm0).1,(hb2.ext hx3).ext hx4,hb3.ext hx4,by rw [S.set_at],hnew,#[],0,hm0,⟨by simp,by simp⟩,rfl,fun i t h=>by simp at h⟩
 clear hb2 hx2 hb3 hx3 hg2 hg3 hx3' hm0 hx4 hm
 generalize S.set m (some (⟨0,[1]⟩,0))=S4 at hst
 apply wpList_nil
 repeat' (first|(with_reducible first|apply wp_block|apply wp_skip|apply wp_exit)|((with_reducible apply wp_seq_k);intro K hK)|simp only [Exit.then,Exit.inBlock,↓reduceIte,Nat.reduceEqDiff]|((with_reducible apply wp_cond_true);exact rfl)|((with_reducible apply wp_cond_false);exact rfl)|((fail_if_success with_reducible apply aQ);go_step))
 with_reducible apply (wp_region_lit (id:=2))
 (apply cP);exact rfl;(try simp only [SS,Nat.reduceAdd])
 (apply gC);exact rfl;exact hst.box2.cell 1;(try simp only [SS,Nat.reduceAdd])
 (apply iY);exact rfl;(try simp only [SS,Nat.reduceAdd])
 (apply bT);exact jF;(try simp only [SS,Nat.reduceAdd])
 apply wpList_nil
 repeat' (first|(with_reducible first|apply wp_block|apply wp_skip|apply wp_exit)|((with_reducible apply wp_seq_k);intro K hK)|simp only [Exit.then,Exit.inBlock,↓reduceIte,Nat.reduceEqDiff]|((with_reducible apply wp_cond_true);exact rfl)|((with_reducible apply wp_cond_false);exact rfl)|((fail_if_success with_reducible apply aQ);go_step))
 go_loopw [20] (fun v wr=>∃ (i:Nat) (Sk:Sig),v=.int .i64 i∧i≤atb.length∧TSt S w g2 g3 m #[a0,.slice A atb.length ca,a2] #[b0,.slice B btb.length cb,b2] (dK [] (atb.take i)) Sk wr) (fun v _=>atb.length - idxOf v)
 case atStart=>exact ⟨0,S4,rfl,Nat.zero_le _,hst⟩
 case round=>
  obtain ⟨i,Sk,rfl,hi,hk⟩:=hrel
  repeat' (first|((with_reducible apply wp_seq_k);intro K hK)|(simp only [Exit.then,Exit.inBlock,↓reduceIte,Nat.reduceEqDiff])|(with_reducible first|apply wp_block|apply wp_skip|apply wp_exit)|((with_reducible apply wp_cond_true);exact rfl)|((with_reducible apply wp_cond_false);exact rfl)|(((with_reducible apply wp_cond_split);exact rfl)<;>intro hb<;>(try simp only [aA] at hb)<;>(try (have hbl:=And.left hb;have hbr:=And.right hb))<;>(try (have hbll:=And.left hbl;have hblr:=And.right hbl))<;>(try exact spE))|((with_reducible apply (wp_region_lit (id:=3)));((apply zDn);exact rfl;exact rfl;(try simp only [SS,Nat.reduceAdd]));(apply wpList_nil))|((fail_if_success with_reducible first|apply aQ|apply dS|apply fM|apply dR);go_step))
  ·have hil:i < atb.length:=by omega
   obtain ⟨t,ht⟩:∃ t,atb[i]?=some t:=⟨_,List.getElem?_eq_getElem hil⟩
   obtain ⟨bA,oA,y0,y1,rfl,hrow,o0,o1,f0,f1⟩:=(fa.trans hk.pt.trans).sl_at2 (k:=i) (d:=.str t.name) (d':=.sl 0 2 (t.rows.map rU)) (by rw [List.getElem?_map,ht];rfl)
   obtain rfl:y0=.string ⟨t.name.toArray⟩:=by cases f0;rfl
   with_reducible apply (wp_region_lit (id:=4))
   (apply iZ);exact rfl;exact rfl;omega;omega;(try simp only [SS,Nat.reduceAdd])
   (with_reducible apply (mY (cs := [.string ⟨t.name.toArray⟩,y1])));exact rfl;exact hrow;exact rfl;(try simp only [SS,Nat.reduceAdd])
   refine mD (cs := [.string ⟨t.name.toArray⟩,y1]) (fun _=>rfl) (fun _=>rfl) (by have h0:(Value.string ⟨t.name.toArray⟩).oneCell'=true:=rfl;simp [o1,h0]) fun g8 w8 hb8 hx8 hg8 => ?_
   (try simp only [SS,Nat.reduceAdd])
   apply wpList_nil
   repeat' (first|(with_reducible first|apply wp_block|apply wp_skip|apply wp_exit)|((with_reducible apply wp_seq_k);intro K hK)|simp only [Exit.then,Exit.inBlock,↓reduceIte,Nat.reduceEqDiff]|((with_reducible apply wp_cond_true);exact rfl)|((with_reducible apply wp_cond_false);exact rfl)|((fail_if_success with_reducible apply aQ);go_step))
   with_reducible apply (wp_region_lit (id:=5))
   (apply bT);exact jF;(try simp only [SS,Nat.reduceAdd])
   (apply cP);exact rfl;(try simp only [SS,Nat.reduceAdd])
   (apply gC);exact rfl;exact hb8.cell 0;(try simp only [SS,Nat.reduceAdd])
   (with_reducible apply (mY (cs := [.string ⟨t.name.toArray⟩,y1])));exact rfl;exact rb hb8 (Ext.refl _);exact rfl;(try simp only [SS,Nat.reduceAdd])
   have hk8:=hk.grow (PT.ext' hk.pt.wf hx8)
   have f8:Fz Sk.lim w8 y1 (.sl 0 2 (t.rows.map rU)):=f1.trans (PT.ext' hk.pt.wf hx8).trans
   obtain ⟨ents,clock,hm1,hst1,hE⟩:=hk8.map
   refine wpList_plain rfl fun K1 hK1=>iV rfl hm1 rfl hE.keys rfl rfl rfl fun ents' clock' he' hs'=>hK1 _ _ ?_
   (try simp only [SS,Nat.reduceAdd])
   obtain ⟨wr9,hm9⟩:=WritesM.set (ents':=ents') (clock':=clock') hm1
   generalize World.setMap w8 m (.map ents' clock')=w9 at wr9 hm9 ⊢
   have hk9:TSt S w g2 g3 m #[a0,.slice (some ⟨bA,oA,none⟩) atb.length ca,a2] #[b0,.slice B btb.length cb,b2] (cI t (dK [] (atb.take i))) Sk w9:=by
    have d2:g2 ≠ m:=fun e=>by have:=hk8.box2;unfold Blk at this;rw [e,hm1] at this;cases this
    have d3:g3 ≠ m:=fun e=>by have:=hk8.box3;unfold Blk at this;rw [e,hm1] at this;cases this
    refine ⟨hk8.pt.writeM hw hk8.new wr9,(wr9.other g2 d2).trans hk8.box2,(wr9.other g3 d3).trans hk8.box3,hk8.own,hk8.new,ents',clock',hm9,hs' hst1,?_⟩
    rw [he']
    exact (hE.put o1 f8).grow fun _ _ f=>f.writeM hk8.own wr9
   clear hk hk8 hE hm1 hst1 he' hs' wr9 hm9 hb8 hx8 hg8 hrow f8 f1 f0
   apply wpList_nil
   repeat' (first|((with_reducible apply wp_seq_k);intro K hK)|(simp only [Exit.then,Exit.inBlock,↓reduceIte,Nat.reduceEqDiff])|(with_reducible first|apply wp_block|apply wp_skip|apply wp_exit)|((with_reducible apply wp_cond_true);exact rfl)|((with_reducible apply wp_cond_false);exact rfl)|(((with_reducible apply wp_cond_split);exact rfl)<;>intro hb<;>(try simp only [aA] at hb)<;>(try (have hbl:=And.left hb;have hbr:=And.right hb))<;>(try (have hbll:=And.left hbl;have hblr:=And.right hbl))<;>(try exact spE))|((with_reducible apply (wp_region_lit (id:=6)));((apply yM);exact rfl;exact rfl;(focus (first|(apply IntWalk.i64_in;omega)|exact IntWalk.i64_left _));(try simp only [SS,Nat.reduceAdd]));((apply bT);exact jF;(try simp only [SS,Nat.reduceAdd]));(apply wpList_nil))|((fail_if_success with_reducible first|apply aQ|apply dS|apply fM|apply dR);go_step))
   have hsn:cI t (dK [] (atb.take i))=dK [] (atb.take (i+1)):=by rw [List.take_add_one,ht,← uZ];rfl
   rw [hsn] at hk9
   refine ⟨⟨i+1,Sk,rfl,by omega,hk9⟩,?_⟩
   simp only [idxOf]
   omega
  ·have hi':i=atb.length:=by omega
   subst hi'
   rw [List.take_length] at hk
   with_reducible apply (wp_region_lit (id:=7))
   (apply cP);exact rfl;(try simp only [SS,Nat.reduceAdd])
   (apply gC);exact rfl;exact hk.box3.cell 1;(try simp only [SS,Nat.reduceAdd])
   (apply iY);exact rfl;(try simp only [SS,Nat.reduceAdd])
   (apply bT);exact jF;(try simp only [SS,Nat.reduceAdd])
   apply wpList_nil
   repeat' (first|(with_reducible first|apply wp_block|apply wp_skip|apply wp_exit)|((with_reducible apply wp_seq_k);intro K hK)|simp only [Exit.then,Exit.inBlock,↓reduceIte,Nat.reduceEqDiff]|((with_reducible apply wp_cond_true);exact rfl)|((with_reducible apply wp_cond_false);exact rfl)|((fail_if_success with_reducible apply aQ);go_step))
   go_loopw [32] (fun v wr=>∃ (i:Nat) (all:List Tb) (Sk:Sig),v=.int .i64 i∧i≤btb.length∧jH all (btb.drop i)=jH (dK [] atb) btb∧all.length≤20+i∧(all.map Tb.name).Nodup∧(∀ o ∈ all,o.rows.length≤500∧jI o.name)∧TSt S w g2 g3 m #[a0,.slice A atb.length ca,a2] #[b0,.slice B btb.length cb,b2] all Sk wr) (fun v _=>btb.length - idxOf v)
   case atStart=>exact ⟨0,dK [] atb,Sk,rfl,Nat.zero_le _,rfl,by have:=xV atb [];simp at this;omega,sL atb [] (by simp),hall,hk⟩
   case round=>
    obtain ⟨i2,all,Sk2,rfl,hi2,hbo,hle,hnd,hoa,hk2⟩:=hrel
    repeat' (first|((with_reducible apply wp_seq_k);intro K hK)|(simp only [Exit.then,Exit.inBlock,↓reduceIte,Nat.reduceEqDiff])|(with_reducible first|apply wp_block|apply wp_skip|apply wp_exit)|((with_reducible apply wp_cond_true);exact rfl)|((with_reducible apply wp_cond_false);exact rfl)|(((with_reducible apply wp_cond_split);exact rfl)<;>intro hb<;>(try simp only [aA] at hb)<;>(try (have hbl:=And.left hb;have hbr:=And.right hb))<;>(try (have hbll:=And.left hbl;have hblr:=And.right hbl))<;>(try exact spE))|((with_reducible apply (wp_region_lit (id:=8)));((apply zDn);exact rfl;exact rfl;(try simp only [SS,Nat.reduceAdd]));(apply wpList_nil))|((with_reducible apply (wp_region_lit (id:=15)));((apply dA);exact jF;(try simp only [SS,Nat.reduceAdd]));(apply wpList_nil))|((fail_if_success with_reducible first|apply aQ|apply dS|apply fM|apply dR);go_step))
    ·have hil:i2 < btb.length:=by omega
     obtain ⟨t,ht⟩:∃ t,btb[i2]?=some t:=⟨_,List.getElem?_eq_getElem hil⟩
     have htm:=aK ht
     obtain ⟨bB,oB,y0,y1,rfl,hrow,o0,o1,f0,f1⟩:=(fb.trans hk2.pt.trans).sl_at2 (k:=i2) (d:=.str t.name) (d':=.sl 0 2 (t.rows.map rU)) (by rw [List.getElem?_map,ht];rfl)
     obtain rfl:y0=.string ⟨t.name.toArray⟩:=by cases f0;rfl
     with_reducible apply (wp_region_lit (id:=9))
     (apply iZ);exact rfl;exact rfl;omega;omega;(try simp only [SS,Nat.reduceAdd])
     (with_reducible apply (mY (cs := [.string ⟨t.name.toArray⟩,y1])));exact rfl;exact hrow;exact rfl;(try simp only [SS,Nat.reduceAdd])
     refine mD (cs := [.string ⟨t.name.toArray⟩,y1]) (fun _=>rfl) (fun _=>rfl) (by have h0:(Value.string ⟨t.name.toArray⟩).oneCell'=true:=rfl;simp [o1,h0]) fun g10 w10 hb10 hx10 hg10 => ?_
     (try simp only [SS,Nat.reduceAdd])
     apply wpList_nil
     repeat' (first|(with_reducible first|apply wp_block|apply wp_skip|apply wp_exit)|((with_reducible apply wp_seq_k);intro K hK)|simp only [Exit.then,Exit.inBlock,↓reduceIte,Nat.reduceEqDiff]|((with_reducible apply wp_cond_true);exact rfl)|((with_reducible apply wp_cond_false);exact rfl)|((fail_if_success with_reducible apply aQ);go_step))
     have p10:=PT.ext' hk2.pt.wf hx10
     have hk10:=hk2.grow p10
     have f10:Fz Sk2.lim w10 y1 (.sl 0 2 (t.rows.map rU)):=f1.trans p10.trans
     obtain ⟨ents,clock,hm1,hst1,hE⟩:=hk10.map
     with_reducible apply (wp_region_lit (id:=10))
     (apply bT);exact jF;(try simp only [SS,Nat.reduceAdd])
     (apply cP);exact rfl;(try simp only [SS,Nat.reduceAdd])
     (apply gC);exact rfl;exact hb10.cell 0;(try simp only [SS,Nat.reduceAdd])
     refine wpList_plain rfl fun K1 hK1=>sH (kv:=.string ⟨t.name.toArray⟩) (es:=ents.toList.map pr) rfl hm1 rfl hE.keys rfl rfl (hK1 _ _ ?_)
     have hbo':jH (dK [] atb) btb=match cZ t.name all with
      |some o=>if o.rows=t.rows then jH (cI t all) (btb.drop (i2+1)) else none
      |none=>jH (cI t all) (btb.drop (i2+1)):=by
      rw [← hbo,List.drop_eq_getElem_cons hil,(List.getElem?_eq_some_iff.1 ht).2,jH]
      rfl
     rcases hE.find (n:=t.name) with ⟨n1,n2⟩|⟨o,u,n1,n2,n3,n4⟩
     ·rw [n2]
      rw [n1] at hbo'
      dsimp only at hbo'
      change wpList _ _ _ _ (Act.put _ _ (.tuple #[.agg #[.string ⟨#[]⟩,.slice none 0 0],.bool false])) _
      (try simp only [SS,Nat.reduceAdd])
      (apply bT);exact jF;(try simp only [SS,Nat.reduceAdd])
      (with_reducible apply (pV (vs := [.agg #[.string ⟨#[]⟩,.slice none 0 0],.bool false])));exact rfl;exact rfl;(try simp only [SS,Nat.reduceAdd])
      (with_reducible apply (pV (vs := [.agg #[.string ⟨#[]⟩,.slice none 0 0],.bool false])));exact rfl;exact rfl;(try simp only [SS,Nat.reduceAdd])
      refine mD (cs := [.string ⟨#[]⟩,.slice none 0 0]) (fun _=>rfl) (fun _=>rfl) rfl fun g11 w11 hb11 hx11 hg11 => ?_
      (try simp only [SS,Nat.reduceAdd])
      (apply dA);exact jF;(try simp only [SS,Nat.reduceAdd])
      apply wpList_nil
      repeat' (first|(with_reducible first|apply wp_block|apply wp_skip|apply wp_exit)|((with_reducible apply wp_seq_k);intro K hK)|simp only [Exit.then,Exit.inBlock,↓reduceIte,Nat.reduceEqDiff]|((with_reducible apply wp_cond_true);exact rfl)|((with_reducible apply wp_cond_false);exact rfl)|((fail_if_success with_reducible apply aQ);go_step))
      have p11:=PT.ext' hk10.pt.wf hx11
      have hk11:=hk10.grow p11
      have f11:Fz Sk2.lim w11 y1 (.sl 0 2 (t.rows.map rU)):=f10.trans p11.trans
      have hb10':=hb10.ext hx11
      with_reducible apply (wp_region_lit (id:=11))
      (apply bT);exact jF;(try simp only [SS,Nat.reduceAdd])
      (apply bT);exact jF;(try simp only [SS,Nat.reduceAdd])
      refine zA9 rfl ?_
      (try simp only [SS,Nat.reduceAdd])
      refine zA9 rfl ?_
      (try simp only [SS,Nat.reduceAdd])
      refine zA9 rfl ?_
      (try simp only [SS,Nat.reduceAdd])
      refine zA9 rfl ?_
      (try simp only [SS,Nat.reduceAdd])
      refine zA9 rfl ?_
      (try simp only [SS,Nat.reduceAdd])
      refine zA9 rfl ?_
      (try simp only [SS,Nat.reduceAdd])
      refine wpList_plain rfl fun K2 hK2 => ?_
      refine zHL (b:=false) (p:=false) rfl rfl rfl ?_
      refine hK2 _ _ ?_
      (try simp only [SS,Nat.reduceAdd])
      apply wpList_nil
      repeat' (first|(with_reducible first|apply wp_block|apply wp_skip|apply wp_exit)|((with_reducible apply wp_seq_k);intro K hK)|simp only [Exit.then,Exit.inBlock,↓reduceIte,Nat.reduceEqDiff]|((with_reducible apply wp_cond_true);exact rfl)|((with_reducible apply wp_cond_false);exact rfl)|((fail_if_success with_reducible apply aQ);go_step))
      with_reducible apply (wp_region_lit (id:=13))
      (apply bT);exact jF;(try simp only [SS,Nat.reduceAdd])
      (apply cP);exact rfl;(try simp only [SS,Nat.reduceAdd])
      (apply gC);exact rfl;exact hb10'.cell 0;(try simp only [SS,Nat.reduceAdd])
      (with_reducible apply (mY (cs := [.string ⟨t.name.toArray⟩,y1])));exact rfl;exact rb hb10' (Ext.refl _);exact rfl;(try simp only [SS,Nat.reduceAdd])
      obtain ⟨ents9,clock9,hm9,hst9,hE9⟩:=hk11.map
      refine wpList_plain rfl fun K1 hK1=>iV rfl hm9 rfl hE9.keys rfl rfl rfl fun ents' clock' he' hs'=>hK1 _ _ ?_
      (try simp only [SS,Nat.reduceAdd])
      obtain ⟨wr13,hm13⟩:=WritesM.set (ents':=ents') (clock':=clock') hm9
      generalize World.setMap w11 m (.map ents' clock')=w13 at wr13 hm13 ⊢
      have hk13:TSt S w g2 g3 m #[a0,.slice A atb.length ca,a2] #[b0,.slice (some ⟨bB,oB,none⟩) btb.length cb,b2] (cI t all) Sk2 w13:=by
       have d2:g2 ≠ m:=fun e=>by have:=hk11.box2;unfold Blk at this;rw [e,hm9] at this;cases this
       have d3:g3 ≠ m:=fun e=>by have:=hk11.box3;unfold Blk at this;rw [e,hm9] at this;cases this
       refine ⟨hk11.pt.writeM hw hk11.new wr13,(wr13.other g2 d2).trans hk11.box2,(wr13.other g3 d3).trans hk11.box3,hk11.own,hk11.new,ents',clock',hm13,hs' hst9,?_⟩
       rw [he']
       exact (hE9.put o1 f11).grow fun _ _ f=>f.writeM hk11.own wr13
      apply wpList_nil
      repeat' (first|((with_reducible apply wp_seq_k);intro K hK)|(simp only [Exit.then,Exit.inBlock,↓reduceIte,Nat.reduceEqDiff])|(with_reducible first|apply wp_block|apply wp_skip|apply wp_exit)|((with_reducible apply wp_cond_true);exact rfl)|((with_reducible apply wp_cond_false);exact rfl)|(((with_reducible apply wp_cond_split);exact rfl)<;>intro hb<;>(try simp only [aA] at hb)<;>(try (have hbl:=And.left hb;have hbr:=And.right hb))<;>(try (have hbll:=And.left hbl;have hblr:=And.right hbl))<;>(try exact spE))|((with_reducible apply (wp_region_lit (id:=14)));((apply yM);exact rfl;exact rfl;(focus (first|(apply IntWalk.i64_in;omega)|exact IntWalk.i64_left _));(try simp only [SS,Nat.reduceAdd]));((apply bT);exact jF;(try simp only [SS,Nat.reduceAdd]));(apply wpList_nil))|((fail_if_success with_reducible first|apply aQ|apply dS|apply fM|apply dR);go_step))
      refine ⟨⟨i2+1,cI t all,Sk2,rfl,by omega,hbo'.symm,by have:=lZ t all;omega,(iW t all hnd).1,fun o ho => ?_,hk13⟩,?_⟩
      ·rcases mC ho with rfl|ho
       ·exact ⟨(k2.2.2 _ htm).2,(hb9.tables _ htm).name⟩
       ·exact hoa o ho
      ·simp only [idxOf]
       omega
     ·rw [n2]
      rw [n1] at hbo'
      dsimp only at hbo'
      change wpList _ _ _ _ (Act.put _ _ (.tuple #[.agg #[.string ⟨t.name.toArray⟩,u],.bool true])) _
      (try simp only [SS,Nat.reduceAdd])
      (apply bT);exact jF;(try simp only [SS,Nat.reduceAdd])
      (with_reducible apply (pV (vs := [.agg #[.string ⟨t.name.toArray⟩,u],.bool true])));exact rfl;exact rfl;(try simp only [SS,Nat.reduceAdd])
      (with_reducible apply (pV (vs := [.agg #[.string ⟨t.name.toArray⟩,u],.bool true])));exact rfl;exact rfl;(try simp only [SS,Nat.reduceAdd])
      refine mD (cs := [.string ⟨t.name.toArray⟩,u]) (fun _=>rfl) (fun _=>rfl) (by have h0:(Value.string ⟨t.name.toArray⟩).oneCell'=true:=rfl;simp [n3,h0]) fun g11 w11 hb11 hx11 hg11 => ?_
      (try simp only [SS,Nat.reduceAdd])
      (apply dA);exact jF;(try simp only [SS,Nat.reduceAdd])
      apply wpList_nil
      repeat' (first|(with_reducible first|apply wp_block|apply wp_skip|apply wp_exit)|((with_reducible apply wp_seq_k);intro K hK)|simp only [Exit.then,Exit.inBlock,↓reduceIte,Nat.reduceEqDiff]|((with_reducible apply wp_cond_true);exact rfl)|((with_reducible apply wp_cond_false);exact rfl)|((fail_if_success with_reducible apply aQ);go_step))
      have p11:=PT.ext' hk10.pt.wf hx11
      have hk11:=hk10.grow p11
      have f11:Fz Sk2.lim w11 y1 (.sl 0 2 (t.rows.map rU)):=f10.trans p11.trans
      have u11:Fz Sk2.lim w11 u (.sl 0 2 (o.rows.map rU)):=n4.trans p11.trans
      have hb10':=hb10.ext hx11
      have hom:=hoa o (dN n1).1
      with_reducible apply (wp_region_lit (id:=11))
      (apply bT);exact jF;(try simp only [SS,Nat.reduceAdd])
      (apply bT);exact jF;(try simp only [SS,Nat.reduceAdd])
      refine zHg rfl ?_
      refine bP rfl ?_
      (try simp only [SS,Nat.reduceAdd])
      refine zHg rfl ?_
      refine fB rfl (hb11.cell 1) ?_
      (try simp only [SS,Nat.reduceAdd])
      refine zHg rfl ?_
      refine bP rfl ?_
      (try simp only [SS,Nat.reduceAdd])
      refine zHg rfl ?_
      refine fB rfl (hb10'.cell 1) ?_
      (try simp only [SS,Nat.reduceAdd])
      refine zHg rfl ?_
      refine wP (al := [u,y1]) rfl ?_
      refine (rO (zE8 o.rows t.rows (by omega) (by have:=(k2.2.2 t htm).2;omega)) hk11.pt.wf rfl (fun i d v hd hv => ?_) ⟨0,[3]⟩).mono fun e w12 ⟨vE,S12,he,hp12,hr12,_⟩ => ?_
      ·match i,hd,hv with
       |0,hd,hv=>cases hd;cases hv;exact u11
       |1,hd,hv=>cases hd;cases hv;exact f11
       |i+2,hd,_=>simp at hd
      subst he
      obtain rfl:vE=.bool (decide (o.rows=t.rows)):=hr12.bool_inv
      (try simp only [SS,Nat.reduceAdd])
      refine zHg rfl ?_
      refine zLV rfl ?_
      (try simp only [SS,Nat.reduceAdd])
      refine wpList_plain rfl fun K2 hK2 => ?_
      refine zHL (b:=true) (p := !decide (o.rows=t.rows)) rfl rfl rfl ?_
      refine hK2 _ _ ?_
      (try simp only [SS,Nat.reduceAdd])
      apply wpList_nil
      repeat' (first|((with_reducible apply wp_seq_k);intro K hK)|(simp only [Exit.then,Exit.inBlock,↓reduceIte,Nat.reduceEqDiff])|(with_reducible first|apply wp_block|apply wp_skip|apply wp_exit)|((with_reducible apply wp_cond_true);exact rfl)|((with_reducible apply wp_cond_false);exact rfl)|(((with_reducible apply wp_cond_split);exact rfl)<;>intro hb<;>(try simp only [aA] at hb)<;>(try (have hbl:=And.left hb;have hbr:=And.right hb))<;>(try (have hbll:=And.left hbl;have hblr:=And.right hbl))<;>(try exact spE))|((fail_if_success with_reducible first|apply aQ|apply dS|apply fM|apply dR);go_step))
      ·have hne:¬ o.rows=t.rows:=by simpa using hb
       rw [if_neg hne] at hbo'
       with_reducible apply (wp_region_lit (id:=12))
       (apply dA);exact jF;(try simp only [SS,Nat.reduceAdd])
       (apply dA);exact jF;(try simp only [SS,Nat.reduceAdd])
       apply wpList_nil
       repeat' (first|(with_reducible first|apply wp_block|apply wp_skip|apply wp_exit)|((with_reducible apply wp_seq_k);intro K hK)|simp only [Exit.then,Exit.inBlock,↓reduceIte,Nat.reduceEqDiff]|((with_reducible apply wp_cond_true);exact rfl)|((with_reducible apply wp_cond_false);exact rfl)|((fail_if_success with_reducible apply aQ);go_step))
       have hrr:r=([],12):=by rw [← hq];unfold dI;rw [hbo']
       subst hrr
       refine bodyPost_ret (v:=.tuple #[.slice none 0 0,.int .i64 12]) ?_ rfl ?_
       ·have hres:f14.results = #[.tmp 4,.tmp 5]:=rfl
        simp [results,hres,Act.put]
       ·have hk12:=hk11.grow hp12
        refine ⟨_,S12,rfl,hk12.pt.wf,hk12.pt.trans,.fz (.tup [.slice none 0 0,.int .i64 12] rfl fun j d v hd hv => ?_)⟩
        match j,hd,hv with
        |0,hd,hv=>cases hd;cases hv;exact .slNil 0 2
        |1,hd,hv=>cases hd;cases hv;exact .int _ _
        |j+2,hd,hv=>simp at hd
      ·have heq:o.rows=t.rows:=by simpa using hb
       rw [if_pos heq] at hbo'
       have hk12:=hk11.grow hp12
       have f12:Fz S12.lim w12 y1 (.sl 0 2 (t.rows.map rU)):=f11.trans hp12.trans
       have hb12:=hb10'.ext hp12.ext
       with_reducible apply (wp_region_lit (id:=13))
       (apply bT);exact jF;(try simp only [SS,Nat.reduceAdd])
       (apply cP);exact rfl;(try simp only [SS,Nat.reduceAdd])
       (apply gC);exact rfl;exact hb12.cell 0;(try simp only [SS,Nat.reduceAdd])
       (with_reducible apply (mY (cs := [.string ⟨t.name.toArray⟩,y1])));exact rfl;exact rb hb12 (Ext.refl _);exact rfl;(try simp only [SS,Nat.reduceAdd])
       obtain ⟨ents9,clock9,hm9,hst9,hE9⟩:=hk12.map
       refine wpList_plain rfl fun K1 hK1=>iV rfl hm9 rfl hE9.keys rfl rfl rfl fun ents' clock' he' hs'=>hK1 _ _ ?_
       (try simp only [SS,Nat.reduceAdd])
       obtain ⟨wr13,hm13⟩:=WritesM.set (ents':=ents') (clock':=clock') hm9
       generalize World.setMap w12 m (.map ents' clock')=w13 at wr13 hm13 ⊢
       have hk13:TSt S w g2 g3 m #[a0,.slice A atb.length ca,a2] #[b0,.slice (some ⟨bB,oB,none⟩) btb.length cb,b2] (cI t all) S12 w13:=by
        have d2:g2 ≠ m:=fun e=>by have:=hk12.box2;unfold Blk at this;rw [e,hm9] at this;cases this
        have d3:g3 ≠ m:=fun e=>by have:=hk12.box3;unfold Blk at this;rw [e,hm9] at this;cases this
        refine ⟨hk12.pt.writeM hw hk12.new wr13,(wr13.other g2 d2).trans hk12.box2,(wr13.other g3 d3).trans hk12.box3,hk12.own,hk12.new,ents',clock',hm13,hs' hst9,?_⟩
        rw [he']
        exact (hE9.put o1 f12).grow fun _ _ f=>f.writeM hk12.own wr13
       apply wpList_nil
       repeat' (first|((with_reducible apply wp_seq_k);intro K hK)|(simp only [Exit.then,Exit.inBlock,↓reduceIte,Nat.reduceEqDiff])|(with_reducible first|apply wp_block|apply wp_skip|apply wp_exit)|((with_reducible apply wp_cond_true);exact rfl)|((with_reducible apply wp_cond_false);exact rfl)|(((with_reducible apply wp_cond_split);exact rfl)<;>intro hb<;>(try simp only [aA] at hb)<;>(try (have hbl:=And.left hb;have hbr:=And.right hb))<;>(try (have hbll:=And.left hbl;have hblr:=And.right hbl))<;>(try exact spE))|((with_reducible apply (wp_region_lit (id:=14)));((apply yM);exact rfl;exact rfl;(focus (first|(apply IntWalk.i64_in;omega)|exact IntWalk.i64_left _));(try simp only [SS,Nat.reduceAdd]));((apply bT);exact jF;(try simp only [SS,Nat.reduceAdd]));(apply wpList_nil))|((fail_if_success with_reducible first|apply aQ|apply dS|apply fM|apply dR);go_step))
       refine ⟨⟨i2+1,cI t all,S12,rfl,by omega,hbo'.symm,by have:=lZ t all;omega,(iW t all hnd).1,fun o ho => ?_,hk13⟩,?_⟩
       ·rcases mC ho with rfl|ho
        ·exact ⟨(k2.2.2 _ htm).2,(hb9.tables _ htm).name⟩
        ·exact hoa o ho
       ·simp only [idxOf]
        omega
    ·have hi2':i2=btb.length:=by omega
     subst hi2'
     rw [List.drop_length,jH] at hbo
     have hrr:r=(lR all (oL all),0):=by rw [← hq];unfold dI;rw [← hbo]
     subst hrr
     have hall40:all.length≤40:=by omega
     obtain ⟨ents,clock,hm1,hst1,hE⟩:=hk2.map
     have hkl:=hE.keyList
     rw [List.map_map] at hkl
     obtain ⟨D0,hown,hper,hsz⟩:=zFG (k:=9) underlying9 hm1 hst1 (keys:=all.map Tb.name) hkl hnd (fun s hs=>by obtain ⟨o,ho,rfl⟩:=List.mem_map.1 hs;exact (hoa o ho).2) (by rw [List.length_map];omega)
     rw [List.length_map] at hsz
     with_reducible apply (wp_region_lit (id:=16))
     (apply bT);exact jF;(try simp only [SS,Nat.reduceAdd])
     haveI:Enters Tryz.prog 40:=⟨⟨_,func40,by kernel_rfl,by kernel_rfl⟩⟩
     haveI:Enters Tryz.prog 39:=⟨⟨_,func39,by kernel_rfl,by kernel_rfl⟩⟩
     refine pW (al := [.map (some m)]) rfl ((callsIn_wide.1 (zBT (some m) wr)).mono fun e w' h => ?_)
     obtain ⟨rfl,rfl⟩:=h
     (try simp only [SS,Nat.reduceAdd])
     refine pW (al := [.func (.func 74) #[] #[.pointer (some ⟨wr.heap.size,0,none⟩)]]) rfl ((callsIn_wide.1 (lI m _ D0 _ wr hown (by rw [hsz];unfold maxLen;omega) (by rw [hsz];omega))).mono fun e w17 h => ?_)
     obtain ⟨vK,ss,rfl,hperm,hrow,_,hbel⟩:=h
     have hx17:Ext wr w17:=(Ext.alloc _ _).trans hbel
     have hks:(ss.mergeSort fun x y=>decide (x≤y))=oL all:=zAG hnd (hperm.trans hper)
     have hnl:ss.length=(oL all).length:=by rw [← hks,List.length_mergeSort]
     rw [hks] at hrow
     have hkz:=zFR hk2.pt.wf (Ext.alloc wr _).sizeOf hrow hnl
     have p17:=PT.ext' hk2.pt.wf hx17
     have hk17:=hk2.grow p17
     generalize hKs:oL all=ks at hkz hnl ⊢
     obtain ⟨AK,cK,rfl⟩:=hkz.sl_val
     rw [List.length_map] at hkz ⊢
     have hkm:∀ s ∈ ks,∃ o,cZ s all=some o:=fun s hs=>by
      rw [← hKs] at hs
      have:s ∈ all.map Tb.name:=(List.mergeSort_perm _ _).mem_iff.1 hs
      obtain ⟨o,ho,rfl⟩:=List.mem_map.1 this
      cases hc:cZ o.name all with
      |none=>exact absurd rfl (gH.1 hc o ho)
      |some x=>exact ⟨x,rfl⟩
     have hkn:ks.length≤40:=by rw [← hKs];unfold oL;rw [List.length_mergeSort,List.length_map];exact hall40
     have hO17:OSt S w m all (.slice AK ks.length cK) ks (.slice none 0 0) (lR all (ks.take 0)) [] Sk2 w17:=by
      obtain ⟨ents',clock',q1,q2,q3⟩:=hk17.map
      exact ⟨hk17.pt,hk17.own,⟨ents',clock',q1,q2,q3⟩,hkz,Own.nil _ _ _ _,fun g hg=>(by cases hg),rfl,fun k t ht=>(by simp [lR] at ht)⟩
     clear hkz hk17 p17 hrow hperm hown hper hsz hkl hE hst1 hm1 hbel hx17
     (try simp only [SS,Nat.reduceAdd])
     (apply iY);exact rfl;(try simp only [SS,Nat.reduceAdd])
     (apply bT);exact jF;(try simp only [SS,Nat.reduceAdd])
     apply wpList_nil
     repeat' (first|(with_reducible first|apply wp_block|apply wp_skip|apply wp_exit)|((with_reducible apply wp_seq_k);intro K hK)|simp only [Exit.then,Exit.inBlock,↓reduceIte,Nat.reduceEqDiff]|((with_reducible apply wp_cond_true);exact rfl)|((with_reducible apply wp_cond_false);exact rfl)|((fail_if_success with_reducible apply aQ);go_step))
     go_loopw [61,13] (fun v vo wz=>∃ (j:Nat) (Sk:Sig) (news:List (List Value)),v=.int .i64 j∧j≤ks.length∧OSt S w m all (.slice AK ks.length cK) ks vo (lR all (ks.take j)) news Sk wz) (fun v _ _=>ks.length - idxOf v)
     case atStart=>exact ⟨0,Sk2,[],rfl,Nat.zero_le _,hO17⟩
     case round=>
      obtain ⟨j,Sk,news,rfl,hj,hO⟩:=hrel
      repeat' (first|((with_reducible apply wp_seq_k);intro K hK)|(simp only [Exit.then,Exit.inBlock,↓reduceIte,Nat.reduceEqDiff])|(with_reducible first|apply wp_block|apply wp_skip|apply wp_exit)|((with_reducible apply wp_cond_true);exact rfl)|((with_reducible apply wp_cond_false);exact rfl)|(((with_reducible apply wp_cond_split);exact rfl)<;>intro hb<;>(try simp only [aA] at hb)<;>(try (have hbl:=And.left hb;have hbr:=And.right hb))<;>(try (have hbll:=And.left hbl;have hblr:=And.right hbl))<;>(try exact spE))|((with_reducible apply (wp_region_lit (id:=17)));((apply zDn);exact rfl;exact rfl;(try simp only [SS,Nat.reduceAdd]));(apply wpList_nil))|((fail_if_success with_reducible first|apply aQ|apply dS|apply fM|apply dR);go_step))
      ·have hjl:j < ks.length:=by omega
       obtain ⟨sK,hsK⟩:∃ s,ks[j]?=some s:=⟨_,List.getElem?_eq_getElem hjl⟩
       obtain ⟨o,ho⟩:=hkm sK (aK hsK)
       obtain ⟨hom,rfl⟩:=dN ho
       obtain ⟨bK,oK,y,rfl,hyc,hy1,hyf⟩:=hO.keys.sl_at (k:=j) (d:=.str o.name) (by rw [List.getElem?_map,hsK];rfl)
       obtain rfl:y=.string ⟨o.name.toArray⟩:=by cases hyf;rfl
       with_reducible apply (wp_region_lit (id:=18))
       (apply iZ);exact rfl;exact rfl;omega;omega;(try simp only [SS,Nat.reduceAdd])
       (apply gC);exact rfl;exact (by simpa using hyc);(try simp only [SS,Nat.reduceAdd])
       (apply dA);exact jF;(try simp only [SS,Nat.reduceAdd])
       apply wpList_nil
       repeat' (first|(with_reducible first|apply wp_block|apply wp_skip|apply wp_exit)|((with_reducible apply wp_seq_k);intro K hK)|simp only [Exit.then,Exit.inBlock,↓reduceIte,Nat.reduceEqDiff]|((with_reducible apply wp_cond_true);exact rfl)|((with_reducible apply wp_cond_false);exact rfl)|((fail_if_success with_reducible apply aQ);go_step))
       obtain ⟨ents,clock,hm1,hst1,hE⟩:=hO.map
       with_reducible apply (wp_region_lit (id:=19))
       (apply bT);exact jF;(try simp only [SS,Nat.reduceAdd])
       (apply bT);exact jF;(try simp only [SS,Nat.reduceAdd])
       (apply bT);exact jF;(try simp only [SS,Nat.reduceAdd])
       refine wpList_plain rfl fun K1 hK1=>sH (kv:=.string ⟨o.name.toArray⟩) (es:=ents.toList.map pr) rfl hm1 rfl hE.keys rfl rfl (hK1 _ _ ?_)
       rcases hE.find (n:=o.name) with ⟨n1,n2⟩|⟨o',u,n1,n2,n3,n4⟩
       ·rw [ho] at n1;cases n1
       rw [ho] at n1
       cases n1
       rw [n2]
       change wpList _ _ _ _ (Act.put _ _ (.agg #[.string ⟨o.name.toArray⟩,u])) _
       (try simp only [SS,Nat.reduceAdd])
       refine wpList_plain rfl fun K2 hK2 => ?_
       refine wP (al := [.agg #[.string ⟨o.name.toArray⟩,u]]) rfl ?_
       refine (rO (zO o (by have:=(hoa o hom).1;omega)) hO.pt.wf rfl (fun i d v hd hv => ?_) ⟨0,[3]⟩).mono fun e w19 ⟨vT,S19,he,hp19,hr19,_⟩ => ?_
       ·match i,hd,hv with
        |0,hd,hv=>
         cases hd;cases hv
         refine .agg [.string ⟨o.name.toArray⟩,u] rfl (fun v hv => ?_) fun j d v hd hv => ?_
         ·rcases List.mem_cons.1 hv with rfl|hv
          ·rfl
          ·rw [List.mem_singleton.1 hv];exact n3
         ·match j,hd,hv with
          |0,hd,hv=>cases hd;cases hv;exact .str _
          |1,hd,hv=>cases hd;cases hv;exact n4
          |j+2,hd,hv=>simp [Tb.row] at hd
        |i+1,hd,_=>simp at hd
       subst he
       obtain ⟨us,rfl,hul,hu1,ihu⟩:=(hr19.passes rfl).agg_inv
       obtain ⟨x0,x1,rfl⟩:∃ x y,us = [x,y]:=by
        match us,hul with
        |[x,y],_=>exact ⟨x,y,rfl⟩
       have g0:=ihu 0 _ x0 rfl rfl
       have g1:=ihu 1 _ x1 rfl rfl
       obtain rfl:x0=.string ⟨o.name.toArray⟩:=by cases g0;rfl
       refine hK2 _ _ ?_
       (try simp only [SS,Nat.reduceAdd])
       have hO19:=hO.grow hp19
       refine zBW (xs := [.tmp 69]) (vals := [.agg #[.string ⟨o.name.toArray⟩,x1]]) (rows := [[.string ⟨o.name.toArray⟩,x1]]) rfl rfl rfl rfl rfl rfl fun g20 w20 hb20 hx20 hg20 => ?_
       (try simp only [SS,Nat.reduceAdd])
       have p20:=PT.ext' hO19.pt.wf hx20
       have hO20:=hO19.grow p20
       have g20f:Fz S19.lim w20 x1 (.sl 0 2 (o.rows.map rU)):=g1.trans p20.trans
       have hox:x1.oneCell'=true:=hu1 x1 (by simp)
       refine wpList_plain rfl fun K3 hK3=>zEA rfl hO20.own rfl (rb hb20 (Ext.refl _)) rfl (fun v hv => ?_) hO20.pt.ext.sizeOf ?_ (by decide) fun g' c' cur w21 own21 hh21 hor hgr=>hK3 _ _ ?_
       ·rcases List.mem_cons.1 hv with rfl|hv
        ·rfl
        ·rw [List.mem_singleton.1 hv];exact hox
       ·have h1:(lR all (ks.take j)).length≤(ks.take j).length:=List.length_filterMap_le _ _
        have h2:=hO.len
        rw [List.length_take] at h1
        omega
       (try simp only [SS,Nat.reduceAdd])
       have hO21:=hO20.app hw hox g20f own21 hh21 hor hgr
       (apply dA);exact jF;(try simp only [SS,Nat.reduceAdd])
       apply wpList_nil
       repeat' (first|((with_reducible apply wp_seq_k);intro K hK)|(simp only [Exit.then,Exit.inBlock,↓reduceIte,Nat.reduceEqDiff])|(with_reducible first|apply wp_block|apply wp_skip|apply wp_exit)|((with_reducible apply wp_cond_true);exact rfl)|((with_reducible apply wp_cond_false);exact rfl)|(((with_reducible apply wp_cond_split);exact rfl)<;>intro hb<;>(try simp only [aA] at hb)<;>(try (have hbl:=And.left hb;have hbr:=And.right hb))<;>(try (have hbll:=And.left hbl;have hblr:=And.right hbl))<;>(try exact spE))|((with_reducible apply (wp_region_lit (id:=20)));((apply yM);exact rfl;exact rfl;(focus (first|(apply IntWalk.i64_in;omega)|exact IntWalk.i64_left _));(try simp only [SS,Nat.reduceAdd]));((apply bT);exact jF;(try simp only [SS,Nat.reduceAdd]));(apply wpList_nil))|((fail_if_success with_reducible first|apply aQ|apply dS|apply fM|apply dR);go_step))
       rw [← zEj hsK ho] at hO21
       refine ⟨⟨j+1,_,_,rfl,by omega,hO21⟩,?_⟩
       simp only [idxOf]
       omega
      ·have hj':j=ks.length:=by omega
       subst hj'
       rw [List.take_length] at hO
       with_reducible apply (wp_region_lit (id:=21))
       (apply bT);exact jF;(try simp only [SS,Nat.reduceAdd])
       (apply dA);exact jF;(try simp only [SS,Nat.reduceAdd])
       (apply dA);exact jF;(try simp only [SS,Nat.reduceAdd])
       apply wpList_nil
       repeat' (first|(with_reducible first|apply wp_block|apply wp_skip|apply wp_exit)|((with_reducible apply wp_seq_k);intro K hK)|simp only [Exit.then,Exit.inBlock,↓reduceIte,Nat.reduceEqDiff]|((with_reducible apply wp_cond_true);exact rfl)|((with_reducible apply wp_cond_false);exact rfl)|((fail_if_success with_reducible apply aQ);go_step))
       obtain ⟨S',p',f'⟩:=hO.fin hw
       refine bodyPost_ret (v:=.tuple #[u13,.int .i64 0]) ?_ rfl ?_
       ·have hres:f14.results = #[.tmp 4,.tmp 5]:=rfl
        simp [results,hres,Act.put]
       ·rw [hKs]
        refine ⟨_,S',rfl,p'.wf,p'.trans,.fz (.tup [u13,.int .i64 0] rfl fun j d v hd hv => ?_)⟩
        match j,hd,hv with
        |0,hd,hv=>cases hd;cases hv;exact f'
        |1,hd,hv=>cases hd;cases hv;exact .int _ _
        |j+2,hd,hv=>simp at hd
end Go.Proofs.YtnjgoldinaffgaaGreatDoor
