/- What a map fills, as the program finds it: by hand. -/
import Derived.Test.YtnjgoldinaffgaaGreatDoorY31
namespace Go.Proofs.YtnjgoldinaffgaaGreatDoor
open _root_.Go.Proofs.Tryz
set_option linter.unusedSimpArgs false
set_option linter.unusedVariables false
open Go.RowKit Go.Sort
set_option maxRecDepth 100000
set_option maxHeartbeats 4000000
theorem zHn {before:Str} {l:List MStep} {i:Nat} {s:MStep} (h:l[i]?=some s) (ks:List Str):MStep.fillsL before (l.drop i) ks=MStep.fillsL before (l.drop (i+1)) (MStep.fills before s ks):=by
 rw [List.drop_eq_getElem_cons (bC h),(List.getElem?_eq_some_iff.1 h).2,MStep.fillsL]
theorem zKo {before tag:Str} {l:List Fld} {i:Nat} {f:Fld} (h:l[i]?=some f) (ks:List Str):qK before tag (l.drop i) ks=qK before tag (l.drop (i+1)) (zKL (zFD before tag f) ks):=by
 rw [List.drop_eq_getElem_cons (bC h),(List.getElem?_eq_some_iff.1 h).2,qK]
theorem zF6 (l:List MStep) (B:Nat) (hB:B≤1000000000000) (hs:∀ s ∈ l,s.tag.length≤1000∧s.name.length≤1000∧(∀ f ∈ s.flds,I64 f.el∧I64 f.pt)∧zGo s.kids (B+1001)):zGo l B:=by
 intro before ks hbl S w b q vL hw hob hm fL
 obtain ⟨A,ca,hAe⟩:=fL.sl_val
 rw [List.length_map] at hAe
 subst hAe
 have hlen:l.length≤9223372036854775807:=by
  have h1:=fL.sl_max
  rw [List.length_map] at h1
  exact h1
 go_enter func49,ntmps49
 repeat' (first|((with_reducible apply wp_seq_k);intro K hK)|(simp only [Exit.then,Exit.inBlock,↓reduceIte,Nat.reduceEqDiff])|(with_reducible first|apply wp_block|apply wp_skip|apply wp_exit)|((with_reducible apply wp_cond_true);exact rfl)|((with_reducible apply wp_cond_false);exact rfl)|(((with_reducible apply wp_cond_split);exact rfl)<;>intro hb<;>(try simp only [aA] at hb)<;>(try (have hbl:=And.left hb;have hbr:=And.right hb))<;>(try (have hbll:=And.left hbl;have hblr:=And.right hbl))<;>(try exact spE))|((with_reducible apply (wp_region_lit (id:=0)));((apply bT);exact jF;(try simp only [SS,Nat.reduceAdd]));((apply iY);exact rfl;(try simp only [SS,Nat.reduceAdd]));((apply bT);exact jF;(try simp only [SS,Nat.reduceAdd]));(apply wpList_nil))|((fail_if_success with_reducible first|apply aQ|apply dS|apply fM|apply dR);go_step))
 go_loopw [13] (fun v wr=>∃ (i:Nat) (ks1:List Str),v=.int .i64 i∧i≤l.length∧MStep.fillsL before (l.drop i) ks1=MStep.fillsL before l ks∧Grew w wr b∧MapIs wr b (jP ks1)) (fun v _=>l.length - idxOf v)
 case atStart=>exact ⟨0,ks,rfl,Nat.zero_le _,rfl,Grew.refl w b,hm⟩
 case round=>
  obtain ⟨i,ks1,rfl,hi,hv,hG,hm1⟩:=hrel
  repeat' (first|((with_reducible apply wp_seq_k);intro K hK)|(simp only [Exit.then,Exit.inBlock,↓reduceIte,Nat.reduceEqDiff])|(with_reducible first|apply wp_block|apply wp_skip|apply wp_exit)|((with_reducible apply wp_cond_true);exact rfl)|((with_reducible apply wp_cond_false);exact rfl)|(((with_reducible apply wp_cond_split);exact rfl)<;>intro hb<;>(try simp only [aA] at hb)<;>(try (have hbl:=And.left hb;have hbr:=And.right hb))<;>(try (have hbll:=And.left hbl;have hblr:=And.right hbl))<;>(try exact spE))|((with_reducible apply (wp_region_lit (id:=1)));((apply zDn);exact rfl;exact rfl;(try simp only [SS,Nat.reduceAdd]));(apply wpList_nil))|((fail_if_success with_reducible first|apply aQ|apply dS|apply fM|apply dR);go_step))
  ·have hil:i < l.length:=by omega
   obtain ⟨s,hx⟩:∃ s,l[i]?=some s:=⟨_,List.getElem?_eq_getElem hil⟩
   obtain ⟨ht1,hn1,hf1,ihk⟩:=hs s (aK hx)
   rw [zHn hx] at hv
   obtain ⟨bA,oA,cs,rfl,hrow,hcl,_,hc1,hcf⟩:=(hG.fz hob fL).sl_row (k:=i) (r:=s.row) (by rw [List.getElem?_map,hx];rfl)
   obtain ⟨k,t,fs,n,o,⟨ck,cks,cp,cvs,clo,chi⟩,ss⟩:=s
   rw [MStep.row_mk] at hcf
   change t.length≤1000 at ht1
   change n.length≤1000 at hn1
   change ∀ f ∈ fs,I64 f.el∧I64 f.pt at hf1
   change zGo ss (B+1001) at ihk
   obtain ⟨c0,c1,c2,c3,c4,c5,c6,c7,c8,c9,c10,c11,rfl⟩:∃ c0 c1 c2 c3 c4 c5 c6 c7 c8 c9 c10 c11,cs = [c0,c1,c2,c3,c4,c5,c6,c7,c8,c9,c10,c11]:=by
    match cs,hcl with
    |[c0,c1,c2,c3,c4,c5,c6,c7,c8,c9,c10,c11],_=>exact ⟨c0,c1,c2,c3,c4,c5,c6,c7,c8,c9,c10,c11,rfl⟩
   have f1:=hcf 1 _ c1 rfl rfl
   have f2:=hcf 2 _ c2 rfl rfl
   have f3:=hcf 3 _ c3 rfl rfl
   have f11:=hcf 11 _ c11 rfl rfl
   clear hcf
   obtain rfl:c1=.string ⟨t.toArray⟩:=by cases f1;rfl
   obtain rfl:c3=.string ⟨n.toArray⟩:=by cases f3;rfl
   obtain ⟨A2,ca2,h2e⟩:=f2.sl_val
   rw [List.length_map] at h2e
   subst h2e
   have hlen2:fs.length≤9223372036854775807:=by
    have h1:=f2.sl_max
    rw [List.length_map] at h1
    exact h1
   with_reducible apply (wp_region_lit (id:=2))
   (apply iZ);exact rfl;exact rfl;omega;omega;(try simp only [SS,Nat.reduceAdd])
   (with_reducible apply (mY (cs := [c0,.string ⟨t.toArray⟩,.slice A2 fs.length ca2,.string ⟨n.toArray⟩,c4,c5,c6,c7,c8,c9,c10,c11])));exact rfl;exact (by simpa using hrow);exact rfl;(try simp only [SS,Nat.reduceAdd])
   refine mD (cs := [c0,.string ⟨t.toArray⟩,.slice A2 fs.length ca2,.string ⟨n.toArray⟩,c4,c5,c6,c7,c8,c9,c10,c11]) (fun _=>rfl) (fun _=>rfl) (by
    have hall:([c0,.string ⟨t.toArray⟩,.slice A2 fs.length ca2,.string ⟨n.toArray⟩,c4,c5,c6,c7,c8,c9,c10,c11].all (·.oneCell'))=true:=List.all_eq_true.2 hc1
    rw [hall];rfl) fun g7 w7 hb7 hx7 hg7 => ?_
   (try simp only [SS,Nat.reduceAdd])
   apply wpList_nil
   repeat' (first|(with_reducible first|apply wp_block|apply wp_skip|apply wp_exit)|((with_reducible apply wp_seq_k);intro K hK)|simp only [Exit.then,Exit.inBlock,↓reduceIte,Nat.reduceEqDiff]|((with_reducible apply wp_cond_true);exact rfl)|((with_reducible apply wp_cond_false);exact rfl)|((fail_if_success with_reducible apply aQ);go_step))
   have hg7b:g7 ≠ b:=by have:=hm1.lt;omega
   have hG7:=hG.trans (Grew.of (b:=b) hx7)
   have hm7:=hm1.ext hx7
   have f2':Fz S.lim w7 (.slice A2 fs.length ca2) (.sl 0 6 (fs.map Fld.row)):=(Grew.of (b:=b) hx7).fz hob f2
   have f11':Fz S.lim w7 c11 (.sl 0 12 (ss.map MStep.row)):=(Grew.of (b:=b) hx7).fz hob f11
   with_reducible apply (wp_region_lit (id:=3))
   (apply cP);exact rfl;(try simp only [SS,Nat.reduceAdd])
   (apply gC);exact rfl;exact hb7.cell 2;(try simp only [SS,Nat.reduceAdd])
   (apply iY);exact rfl;(try simp only [SS,Nat.reduceAdd])
   (apply bT);exact jF;(try simp only [SS,Nat.reduceAdd])
   apply wpList_nil
   repeat' (first|(with_reducible first|apply wp_block|apply wp_skip|apply wp_exit)|((with_reducible apply wp_seq_k);intro K hK)|simp only [Exit.then,Exit.inBlock,↓reduceIte,Nat.reduceEqDiff]|((with_reducible apply wp_cond_true);exact rfl)|((with_reducible apply wp_cond_false);exact rfl)|((fail_if_success with_reducible apply aQ);go_step))
   go_loopw [20] (fun v wz=>∃ (j:Nat) (ks2:List Str),v=.int .i64 j∧j≤fs.length∧qK before t (fs.drop j) ks2=qK before t fs ks1∧Grew w7 wz b∧MapIs wz b (jP ks2)) (fun v _=>fs.length - idxOf v)
   case atStart=>exact ⟨0,ks1,rfl,Nat.zero_le _,rfl,Grew.refl w7 b,hm7⟩
   case round=>
    obtain ⟨j,ks2,rfl,hj,hv2,hG2,hm2⟩:=hrel
    repeat' (first|((with_reducible apply wp_seq_k);intro K hK)|(simp only [Exit.then,Exit.inBlock,↓reduceIte,Nat.reduceEqDiff])|(with_reducible first|apply wp_block|apply wp_skip|apply wp_exit)|((with_reducible apply wp_cond_true);exact rfl)|((with_reducible apply wp_cond_false);exact rfl)|(((with_reducible apply wp_cond_split);exact rfl)<;>intro hb<;>(try simp only [aA] at hb)<;>(try (have hbl:=And.left hb;have hbr:=And.right hb))<;>(try (have hbll:=And.left hbl;have hblr:=And.right hbl))<;>(try exact spE))|((with_reducible apply (wp_region_lit (id:=4)));((apply zDn);exact rfl;exact rfl;(try simp only [SS,Nat.reduceAdd]));(apply wpList_nil))|((with_reducible apply (wp_region_lit (id:=8)));((apply bT);exact jF;(try simp only [SS,Nat.reduceAdd]));((apply dA);exact jF;(try simp only [SS,Nat.reduceAdd]));(apply wpList_nil))|((fail_if_success with_reducible first|apply aQ|apply dS|apply fM|apply dR);go_step))
    ·have hjl:j < fs.length:=by omega
     obtain ⟨f,hy⟩:∃ f,fs[j]?=some f:=⟨_,List.getElem?_eq_getElem hjl⟩
     obtain ⟨he1,he2⟩:=hf1 f (aK hy)
     rw [zKo hy] at hv2
     obtain ⟨bF,oF,ds,rfl,hrow2,hdl,_,hd1,hdf⟩:=(hG2.fz hob f2').sl_row (k:=j) (r:=f.row) (by rw [List.getElem?_map,hy];rfl)
     obtain ⟨d0,d1,d2,d3,d4,d5,rfl⟩:∃ d0 d1 d2 d3 d4 d5,ds = [d0,d1,d2,d3,d4,d5]:=by
      match ds,hdl with
      |[d0,d1,d2,d3,d4,d5],_=>exact ⟨d0,d1,d2,d3,d4,d5,rfl⟩
     have e0:=hdf 0 _ d0 rfl rfl
     have e1:=hdf 1 _ d1 rfl rfl
     clear hdf
     obtain rfl:d0=.int .i64 f.el:=by cases e0;rfl
     obtain rfl:d1=.int .i64 f.pt:=by cases e1;rfl
     with_reducible apply (wp_region_lit (id:=5))
     (apply iZ);exact rfl;exact rfl;omega;omega;(try simp only [SS,Nat.reduceAdd])
     (with_reducible apply (mY (cs := [.int .i64 f.el,.int .i64 f.pt,d2,d3,d4,d5])));exact rfl;exact (by simpa using hrow2);exact rfl;(try simp only [SS,Nat.reduceAdd])
     refine mD (cs := [.int .i64 f.el,.int .i64 f.pt,d2,d3,d4,d5]) (fun _=>rfl) (fun _=>rfl) (by
      have hall:([.int .i64 f.el,.int .i64 f.pt,d2,d3,d4,d5].all (·.oneCell'))=true:=List.all_eq_true.2 hd1
      rw [hall];rfl) fun g9 w9 hb9 hx9 hg9 => ?_
     (try simp only [SS,Nat.reduceAdd])
     apply wpList_nil
     repeat' (first|(with_reducible first|apply wp_block|apply wp_skip|apply wp_exit)|((with_reducible apply wp_seq_k);intro K hK)|simp only [Exit.then,Exit.inBlock,↓reduceIte,Nat.reduceEqDiff]|((with_reducible apply wp_cond_true);exact rfl)|((with_reducible apply wp_cond_false);exact rfl)|((fail_if_success with_reducible apply aQ);go_step))
     have hG9:=hG2.trans (Grew.of (b:=b) hx9)
     have hm9:=hm2.ext hx9
     have hb79:Blk w9 g7 64 #[c0,.string ⟨t.toArray⟩,.slice (some ⟨bF,oF,none⟩) fs.length ca2,.string ⟨n.toArray⟩,c4,c5,c6,c7,c8,c9,c10,c11]:=hG9.blk hb7 hg7b
     have hw9:WF S w9:=(hG7.trans hG9).wf hob hw
     have q1:=Lib.itoa_length_le f.el he1.1 he1.2
     have q2:=Lib.itoa_length_le f.pt he2.1 he2.2
     ((with_reducible apply (wZ (id:=6) 15));kernel_rfl;kernel_rfl;kernel_rfl;(focus exact of_decide_eq_true rfl);exact rfl;simp only [List.take_succ_cons,List.take_zero])
     (apply zIt);exact jF;(try simp only [SS,Nat.reduceAdd])
     (apply zIt);exact jF;(try simp only [SS,Nat.reduceAdd])
     (apply nW);exact rfl;(try simp only [SS,Nat.reduceAdd])
     (apply zBL);exact rfl;exact hb79.cell 1;(try simp only [SS,Nat.reduceAdd])
     (with_reducible apply (zCO (s:=before) (u:=t)));exact rfl;exact rfl;omega;(try simp only [SS,Nat.reduceAdd])
     (with_reducible apply (zCO (s:=before++t) (u := [46])));exact rfl;exact rfl;(focus (simp only [List.length_append,List.length_cons,List.length_nil];omega));(try simp only [SS,Nat.reduceAdd])
     (apply nW);exact rfl;(try simp only [SS,Nat.reduceAdd])
     (apply zBL);exact rfl;exact hb9.cell 0;(try simp only [SS,Nat.reduceAdd])
     (with_reducible apply (zFF (al := [.int .i64 f.el]) (v:=.string ⟨(Lib.itoa f.el).toArray⟩)));exact rfl;(focus exact wB f.el he1 hw9);(try simp only [SS,Nat.reduceAdd])
     (with_reducible apply (zCO (s:=before++t ++ [46]) (u:=Lib.itoa f.el)));exact rfl;exact rfl;(focus (simp only [List.length_append,List.length_cons,List.length_nil];omega));(try simp only [SS,Nat.reduceAdd])
     (with_reducible apply (zCO (s:=before++t ++ [46]++Lib.itoa f.el) (u := [46])));exact rfl;exact rfl;(focus (simp only [List.length_append,List.length_cons,List.length_nil];omega));(try simp only [SS,Nat.reduceAdd])
     (apply nW);exact rfl;(try simp only [SS,Nat.reduceAdd])
     (apply zBL);exact rfl;exact hb9.cell 1;(try simp only [SS,Nat.reduceAdd])
     (with_reducible apply (zFF (al := [.int .i64 f.pt]) (v:=.string ⟨(Lib.itoa f.pt).toArray⟩)));exact rfl;(focus exact wB f.pt he2 hw9);(try simp only [SS,Nat.reduceAdd])
     (with_reducible apply (zCO (s:=before++t ++ [46]++Lib.itoa f.el ++ [46]) (u:=Lib.itoa f.pt)));exact rfl;exact rfl;(focus (simp only [List.length_append,List.length_cons,List.length_nil];omega));(try simp only [SS,Nat.reduceAdd])
     with_reducible apply zK8
     intro w10 hx10 _
     unfold zCo
     simp only [List.drop_succ_cons,List.drop_zero]
     obtain ⟨ents,clock,hh10,hst10,hes10⟩:=hm9.ext hx10
     refine wpList_plain rfl fun K1 hK1=>iV (kv:=.string ⟨(zFD before t f).toArray⟩) (vv:=.bool true) rfl hh10 hes10 (zAB ks2) rfl rfl rfl fun ents' clock' he' hs'=>hK1 _ _ ?_
     (try simp only [SS,Nat.reduceAdd])
     obtain ⟨wr11,hm11⟩:=WritesM.set (ents':=ents') (clock':=clock') hh10
     generalize World.setMap w10 b (.map ents' clock')=w11 at wr11 hm11 ⊢
     have hG11:=(hG9.trans (Grew.of (b:=b) hx10)).trans (Grew.ofM wr11)
     have hmm:MapIs w11 b (jP (zKL (zFD before t f) ks2)):=⟨ents',clock',hm11,hs' hst10,he'.trans (zK5 _ _)⟩
     apply wpList_nil
     refine NoPanic.normal ?_
     repeat' (first|((with_reducible apply wp_seq_k);intro K hK)|(simp only [Exit.then,Exit.inBlock,↓reduceIte,Nat.reduceEqDiff])|(with_reducible first|apply wp_block|apply wp_skip|apply wp_exit)|((with_reducible apply wp_cond_true);exact rfl)|((with_reducible apply wp_cond_false);exact rfl)|(((with_reducible apply wp_cond_split);exact rfl)<;>intro hb<;>(try simp only [aA] at hb)<;>(try (have hbl:=And.left hb;have hbr:=And.right hb))<;>(try (have hbll:=And.left hbl;have hblr:=And.right hbl))<;>(try exact spE))|((with_reducible apply (wp_region_lit (id:=7)));((apply yM);exact rfl;exact rfl;(focus (first|(apply IntWalk.i64_in;omega)|exact IntWalk.i64_left _));(try simp only [SS,Nat.reduceAdd]));((apply bT);exact jF;(try simp only [SS,Nat.reduceAdd]));(apply wpList_nil))|((fail_if_success with_reducible first|apply aQ|apply dS|apply fM|apply dR);go_step))
     refine ⟨⟨j+1,_,rfl,by omega,hv2,hG11,hmm⟩,?_⟩
     simp only [idxOf]
     omega
    ·have hj':j=fs.length:=by omega
     subst hj'
     rw [List.drop_length,qK] at hv2
     subst hv2
     repeat' (first|(with_reducible first|apply wp_block|apply wp_skip|apply wp_exit)|((with_reducible apply wp_seq_k);intro K hK)|simp only [Exit.then,Exit.inBlock,↓reduceIte,Nat.reduceEqDiff]|((with_reducible apply wp_cond_true);exact rfl)|((with_reducible apply wp_cond_false);exact rfl)|((fail_if_success with_reducible apply aQ);go_step))
     have hb7e:=hG2.blk hb7 hg7b
     have hwe:WF S wr:=(hG7.trans hG2).wf hob hw
     have f11e:=hG2.fz hob f11'
     with_reducible apply (wp_region_lit (id:=9))
     (apply cP);exact rfl;(try simp only [SS,Nat.reduceAdd])
     (apply gC);exact rfl;exact hb7e.cell 3;(try simp only [SS,Nat.reduceAdd])
     (with_reducible apply (zNQ (s:=n) (u := [])));exact rfl;exact rfl;(try simp only [SS,Nat.reduceAdd])
     apply wpList_nil
     repeat' (first|((with_reducible apply wp_seq_k);intro K hK)|(simp only [Exit.then,Exit.inBlock,↓reduceIte,Nat.reduceEqDiff])|(with_reducible first|apply wp_block|apply wp_skip|apply wp_exit)|((with_reducible apply wp_cond_true);exact rfl)|((with_reducible apply wp_cond_false);exact rfl)|(((with_reducible apply wp_cond_split);exact rfl)<;>intro hb<;>(try simp only [aA] at hb)<;>(try (have hbl:=And.left hb;have hbr:=And.right hb))<;>(try (have hbll:=And.left hbl;have hblr:=And.right hbl))<;>(try exact spE))|((fail_if_success with_reducible first|apply aQ|apply dS|apply fM|apply dR);go_step))
     ·have hne:n ≠ []:=by simpa using hb
      with_reducible apply (wp_region_lit (id:=10))
      (apply bT);exact jF;(try simp only [SS,Nat.reduceAdd])
      (apply cP);exact rfl;(try simp only [SS,Nat.reduceAdd])
      (apply gC);exact rfl;exact hb7e.cell 3;(try simp only [SS,Nat.reduceAdd])
      (with_reducible apply (zL4 (s:=n) (u := [47])));exact rfl;exact rfl;(focus (simp only [List.length_cons,List.length_nil];omega));(try simp only [SS,Nat.reduceAdd])
      (with_reducible apply (zL4 (s:=before) (u:=n ++ [47])));exact rfl;exact rfl;(focus (simp only [List.length_append,List.length_cons,List.length_nil];omega));(try simp only [SS,Nat.reduceAdd])
      (apply dA);exact jF;(try simp only [SS,Nat.reduceAdd])
      apply wpList_nil
      repeat' (first|(with_reducible first|apply wp_block|apply wp_skip|apply wp_exit)|((with_reducible apply wp_seq_k);intro K hK)|simp only [Exit.then,Exit.inBlock,↓reduceIte,Nat.reduceEqDiff]|((with_reducible apply wp_cond_true);exact rfl)|((with_reducible apply wp_cond_false);exact rfl)|((fail_if_success with_reducible apply aQ);go_step))
      with_reducible apply (wp_region_lit (id:=11))
      (apply bT);exact jF;(try simp only [SS,Nat.reduceAdd])
      (apply cP);exact rfl;(try simp only [SS,Nat.reduceAdd])
      (apply gC);exact rfl;exact hb7e.cell 11;(try simp only [SS,Nat.reduceAdd])
      (apply bT);exact jF;(try simp only [SS,Nat.reduceAdd])
      have hcall:=ihk (before++(n ++ [47])) (qK before t fs ks1) (by first|omega|(simp only [List.length_append,List.length_cons,List.length_nil];omega)) S wr b q c11 hwe hob hm2 f11e
      (with_reducible apply (pW (al := [.map (some b),c11,.string ⟨(before++(n ++ [47])).toArray⟩])));exact rfl
      refine hcall.mono fun e w12 h => ?_
      obtain ⟨rfl,hG12,hm12⟩:=h
      (try simp only [SS,Nat.reduceAdd])
      apply wpList_nil
      repeat' (first|((with_reducible apply wp_seq_k);intro K hK)|(simp only [Exit.then,Exit.inBlock,↓reduceIte,Nat.reduceEqDiff])|(with_reducible first|apply wp_block|apply wp_skip|apply wp_exit)|((with_reducible apply wp_cond_true);exact rfl)|((with_reducible apply wp_cond_false);exact rfl)|(((with_reducible apply wp_cond_split);exact rfl)<;>intro hb<;>(try simp only [aA] at hb)<;>(try (have hbl:=And.left hb;have hbr:=And.right hb))<;>(try (have hbll:=And.left hbl;have hblr:=And.right hbl))<;>(try exact spE))|((with_reducible apply (wp_region_lit (id:=12)));((apply yM);exact rfl;exact rfl;(focus (first|(apply IntWalk.i64_in;omega)|exact IntWalk.i64_left _));(try simp only [SS,Nat.reduceAdd]));((apply bT);exact jF;(try simp only [SS,Nat.reduceAdd]));(apply wpList_nil))|((fail_if_success with_reducible first|apply aQ|apply dS|apply fM|apply dR);go_step))
      refine ⟨⟨i+1,_,rfl,by omega,?_,(hG7.trans hG2).trans hG12,hm12⟩,?_⟩
      ·rw [← hv,MStep.fills]
       simp [hne]
      ·simp only [idxOf]
       omega
     ·have hne:n = []:=by simpa using hb
      with_reducible apply (wp_region_lit (id:=11))
      (apply bT);exact jF;(try simp only [SS,Nat.reduceAdd])
      (apply cP);exact rfl;(try simp only [SS,Nat.reduceAdd])
      (apply gC);exact rfl;exact hb7e.cell 11;(try simp only [SS,Nat.reduceAdd])
      (apply bT);exact jF;(try simp only [SS,Nat.reduceAdd])
      have hcall:=ihk (before) (qK before t fs ks1) (by first|omega|(simp only [List.length_append,List.length_cons,List.length_nil];omega)) S wr b q c11 hwe hob hm2 f11e
      (with_reducible apply (pW (al := [.map (some b),c11,.string ⟨(before).toArray⟩])));exact rfl
      refine hcall.mono fun e w12 h => ?_
      obtain ⟨rfl,hG12,hm12⟩:=h
      (try simp only [SS,Nat.reduceAdd])
      apply wpList_nil
      repeat' (first|((with_reducible apply wp_seq_k);intro K hK)|(simp only [Exit.then,Exit.inBlock,↓reduceIte,Nat.reduceEqDiff])|(with_reducible first|apply wp_block|apply wp_skip|apply wp_exit)|((with_reducible apply wp_cond_true);exact rfl)|((with_reducible apply wp_cond_false);exact rfl)|(((with_reducible apply wp_cond_split);exact rfl)<;>intro hb<;>(try simp only [aA] at hb)<;>(try (have hbl:=And.left hb;have hbr:=And.right hb))<;>(try (have hbll:=And.left hbl;have hblr:=And.right hbl))<;>(try exact spE))|((with_reducible apply (wp_region_lit (id:=12)));((apply yM);exact rfl;exact rfl;(focus (first|(apply IntWalk.i64_in;omega)|exact IntWalk.i64_left _));(try simp only [SS,Nat.reduceAdd]));((apply bT);exact jF;(try simp only [SS,Nat.reduceAdd]));(apply wpList_nil))|((fail_if_success with_reducible first|apply aQ|apply dS|apply fM|apply dR);go_step))
      refine ⟨⟨i+1,_,rfl,by omega,?_,(hG7.trans hG2).trans hG12,hm12⟩,?_⟩
      ·rw [← hv,MStep.fills]
       simp [hne]
      ·simp only [idxOf]
       omega
  ·have hi':i=l.length:=by omega
   subst hi'
   rw [List.drop_length,MStep.fillsL] at hv
   subst hv
   repeat' (first|(with_reducible first|apply wp_block|apply wp_skip|apply wp_exit)|((with_reducible apply wp_seq_k);intro K hK)|simp only [Exit.then,Exit.inBlock,↓reduceIte,Nat.reduceEqDiff]|((with_reducible apply wp_cond_true);exact rfl)|((with_reducible apply wp_cond_false);exact rfl)|((fail_if_success with_reducible apply aQ);go_step))
   go_end0
   exact ⟨rfl,hG,hm1⟩
theorem zDL:∀ (d:Nat) (l:List MStep) (B:Nat),zGp d l→B+1001 * d≤1000000000000→zGo l B
 |0,l,B,h,hB=>by
  have:l = []:=h
  subst this
  exact zF6 [] B (by omega) (by simp)
 |d+1,l,B,h,hB=>zF6 l B (by omega) fun s hs=>by
  obtain ⟨h1,h2,h3,h4⟩:=h s hs
  exact ⟨h1,h2,h3,zDL d s.kids (B+1001) h4 (by omega)⟩
theorem zE7 (d:Nat) (l:List MStep) (before:Str) (ks:List Str) (h:zGp d l) (hB:before.length+1001 * d≤1000000000000):SemO Tryz.prog 49 (.mp .str (jP ks)) [.sl 0 12 (l.map MStep.row),.str before] (.tup []) (some (.mp .str (jP (MStep.fillsL before l ks)))):=by
 refine ⟨inferInstance,rfl,fun d' hd=>by cases hd;rfl,fun S w v0 vs hw hr hl hf => ?_⟩
 obtain ⟨vL,vB,rfl⟩:∃ v v',vs = [v,v']:=by
  match vs,hl with
  |[v,v'],_=>exact ⟨v,v',rfl⟩
 have f0:=hf 0 _ vL rfl rfl
 have f1:=hf 1 _ vB rfl rfl
 obtain rfl:vB=.string ⟨before.toArray⟩:=by cases f1;rfl
 obtain ⟨b,clock,ents,rfl,hb,hh,he,hk⟩:=hr.mp_inv
 have hm:MapIs w b (jP ks):=⟨ents,clock,hh,he.2,he.1⟩
 refine (zDL d l before.length h hB before ks (Nat.le_refl _) S w b _ vL hw hb hm f0).mono fun e w' ⟨h1,h2,h3⟩ => ?_
 obtain ⟨ents',clock',k1,k2,k3⟩:=h3
 refine ⟨_,S,h1,h2.wf hb hw,?_,.fz (.tup [] rfl fun j d v hd=>by simp at hd),fun d' hd => ?_⟩
 ·refine ⟨h2.os,h2.tape,h2.output,h2.size,fun k hk hn=>⟨h2.other k hk (fun e=>by subst e;rw [hb] at hn;cases hn),hn⟩,fun k p l hk hs hp=>⟨h2.other k hk (fun e=>by subst e;rw [hb] at hs;cases hs;cases hp),hs⟩,fun k p l hk hs=>⟨?_,fun x hx => ?_⟩,rfl⟩
  ·by_cases hkb:k=b
   ·subst hkb
    intro c0 e0 fz hc
    rw [hh] at hc
    cases hc
   ·exact Keeps.of_eq (h2.other k hk hkb)
  ·rw [hs] at hx
   cases hx
   exact Nat.le_refl _
 ·cases hd
  exact .mp hb k1 ⟨k3,k2⟩ (zAB _)
end Go.Proofs.YtnjgoldinaffgaaGreatDoor
