/- The text that a table of replacements makes of a text: the walk. -/
import Derived.Test.YtindehjiaknokaaGreatDoorY28
namespace Go.Proofs.YtindehjiaknokaaGreatDoor
set_option linter.unusedSimpArgs false
set_option linter.unusedVariables false
open Go.RowKit
set_option maxRecDepth 100000
set_option maxHeartbeats 8000000
theorem replace_at (b:Nat) (s:Str) (hs:s.length≤100000000) (w:World) (hT:TabR b w):Calls Tryz.prog 217 #[.pointer (some ⟨b,0,none⟩),.string ⟨s.toArray⟩] w fun e w'=>e=.returned (.string ⟨(escS s).toArray⟩)∧Ext w w':=by
 obtain ⟨bt,ct,hl,hlr⟩:=hT.list
 have hl':w.cell? ⟨b,0+256,none⟩=some (.slice (some ⟨bt,0,none⟩) 2 ct):=hl
 go_enter Tryz.func217,Tryz.ntmps217
 repeat' (first|((with_reducible apply wp_seq_k);intro K hK)|(simp only [Exit.then,Exit.inBlock,↓reduceIte,Nat.reduceEqDiff])|(with_reducible first|apply wp_block|apply wp_skip|apply wp_exit)|((with_reducible apply wp_cond_true);exact rfl)|((with_reducible apply wp_cond_false);exact rfl)|(((with_reducible apply wp_cond_split);exact rfl)<;>intro hb<;>(try simp only [SPLT] at hb)<;>(try (have hbl:=And.left hb;have hbr:=And.right hb))<;>(try (have hbll:=And.left hbl;have hblr:=And.right hbl))<;>(try exact spE))|((with_reducible apply (wp_region_lit (id:=0)));((apply l_assign);exact evE;(try simp only [SS,Nat.reduceAdd]));(apply wpList_nil))|((with_reducible apply (wp_region_lit (id:=1)));((apply l_move);exact evE;(try simp only [SS,Nat.reduceAdd]));((apply l_len_str);exact rfl;(try simp only [SS,Nat.reduceAdd]));((apply l_assign);exact evE;(try simp only [SS,Nat.reduceAdd]));(apply wpList_nil))|((with_reducible apply (wp_region_lit (id:=2)));((apply l_assign);exact evE;(try simp only [SS,Nat.reduceAdd]));(apply wpList_nil))|((with_reducible apply (wp_region_lit (id:=3)));((apply l_move);exact evE;(try simp only [SS,Nat.reduceAdd]));((apply l_nilCheck);exact rfl;(try simp only [SS,Nat.reduceAdd]));((apply l_fieldAddr);exact rfl;(try simp only [SS,Nat.reduceAdd]));((apply l_load1);exact rfl;(focus (first|assumption|((apply cx);(focus assumption);(focus (repeat (first|exact xr _|assumption|(apply xt;assumption))));done)|((first|(apply cb;assumption)|(apply c0;assumption)|(apply cr;assumption)|(apply cp;assumption));(focus (repeat (first|exact xr _|assumption|(apply xt;assumption))));exact rfl)));(try simp only [SS,Nat.reduceAdd]));((apply l_len_slice);exact rfl;(try simp only [SS,Nat.reduceAdd]));((apply l_mul);exact rfl;exact rfl;(focus (first|(apply IntWalk.i64_in;omega)|exact IntWalk.i64_left _));(try simp only [SS,Nat.reduceAdd]));((apply l_move);exact evE;(try simp only [SS,Nat.reduceAdd]));((apply l_len_str);exact rfl;(try simp only [SS,Nat.reduceAdd]));((apply l_leq);exact rfl;exact rfl;(try simp only [SS,Nat.reduceAdd]));(apply wpList_nil))|((with_reducible apply (wp_region_lit (id:=4)));((apply l_move);exact evE;(try simp only [SS,Nat.reduceAdd]));((apply l_nilCheck);exact rfl;(try simp only [SS,Nat.reduceAdd]));((apply l_fieldAddr);exact rfl;(try simp only [SS,Nat.reduceAdd]));((apply l_load1);exact rfl;(focus (first|assumption|((apply cx);(focus assumption);(focus (repeat (first|exact xr _|assumption|(apply xt;assumption))));done)|((first|(apply cb;assumption)|(apply c0;assumption)|(apply cr;assumption)|(apply cp;assumption));(focus (repeat (first|exact xr _|assumption|(apply xt;assumption))));exact rfl)));(try simp only [SS,Nat.reduceAdd]));((apply l_len_slice);exact rfl;(try simp only [SS,Nat.reduceAdd]));((apply l_move);exact evE;(try simp only [SS,Nat.reduceAdd]));(apply wpList_nil))|((with_reducible apply (wp_region_lit (id:=12)));((apply l_assign);exact evE;(try simp only [SS,Nat.reduceAdd]));(apply wpList_nil))|((fail_if_success with_reducible first|apply no_region|apply no_list|apply no_par|apply no_loop);go_step))
 ·go_loopw [5,6,32] (fun v5 v6 v32 wr=>Ext w wr∧((v32=.int .i64 0∧v5=.int .i64 s.length∧v6=.bool false)∨(v32=.int .i64 1∧v5=.int .i64 (s.length+s.count 34)∧v6=.bool (decide ((0:Int) < s.count 34)))∨(v32=.int .i64 2∧v5=.int .i64 (s.length+sp s)∧v6=.bool (decide ((0:Int) < sp s))))) (fun _ _ v32 _=>2 - idxOf v32)
  case atStart=>exact ⟨Ext.refl _,.inl ⟨rfl,rfl,rfl⟩⟩
  case round=>
   obtain ⟨hx,⟨rfl,rfl,rfl⟩|⟨rfl,rfl,rfl⟩|⟨rfl,rfl,rfl⟩⟩:=hrel
   ·repeat' (first|((with_reducible apply wp_seq_k);intro K hK)|(simp only [Exit.then,Exit.inBlock,↓reduceIte,Nat.reduceEqDiff])|(with_reducible first|apply wp_block|apply wp_skip|apply wp_exit)|((with_reducible apply wp_cond_true);exact rfl)|((with_reducible apply wp_cond_false);exact rfl)|(((with_reducible apply wp_cond_split);exact rfl)<;>intro hb<;>(try simp only [SPLT] at hb)<;>(try (have hbl:=And.left hb;have hbr:=And.right hb))<;>(try (have hbll:=And.left hbl;have hblr:=And.right hbl))<;>(try exact spE))|((with_reducible apply (wp_region_lit (id:=5)));((apply l_lss);exact rfl;exact rfl;(try simp only [SS,Nat.reduceAdd]));(apply wpList_nil))|((fail_if_success with_reducible first|apply no_region|apply no_list|apply no_par|apply no_loop);go_step))
    with_reducible apply (wp_region_lit (id:=6))
    (apply l_indexAddr);exact rfl;exact rfl;omega;omega;(try simp only [SS,Nat.reduceAdd])
    (apply l_load1);exact rfl;exact (hlr.ext hx) 0 _ rfl;(try simp only [SS,Nat.reduceAdd])
    (apply l_assign);exact evE;(try simp only [SS,Nat.reduceAdd])
    apply wpList_nil
    repeat' (first|(with_reducible first|apply wp_block|apply wp_skip|apply wp_exit)|((with_reducible apply wp_seq_k);intro K hK)|simp only [Exit.then,Exit.inBlock,↓reduceIte,Nat.reduceEqDiff]|((with_reducible apply wp_cond_true);exact rfl)|((with_reducible apply wp_cond_false);exact rfl)|((fail_if_success with_reducible apply no_region);go_step))
    with_reducible apply (wp_region_lit (id:=7))
    (apply l_move);exact evE;(try simp only [SS,Nat.reduceAdd])
    (apply l_move);exact evE;(try simp only [SS,Nat.reduceAdd])
    refine l_enter (al := [.string ⟨s.toArray⟩,.string ⟨#[34]⟩]) rfl ?_
    refine (Tryz.strings_Count_one ⟨s.toArray⟩ 34 wr).mono fun e w3 ⟨he,hw3⟩ => ?_
    subst he
    subst hw3
    change wpList _ _ _ _ (Act.put _ _ (.int .i64 (s.count 34:Nat))) _
    (try simp only [SS,Nat.reduceAdd])
    (apply l_assign);exact evE;(try simp only [SS,Nat.reduceAdd])
    apply wpList_nil
    have hcl:s.count 34≤s.length:=List.count_le_length
    have hcl2:s.count 34≤s.length:=List.count_le_length
    repeat' (first|((with_reducible apply wp_seq_k);intro K hK)|(simp only [Exit.then,Exit.inBlock,↓reduceIte,Nat.reduceEqDiff])|(with_reducible first|apply wp_block|apply wp_skip|apply wp_exit)|((with_reducible apply wp_cond_true);exact rfl)|((with_reducible apply wp_cond_false);exact rfl)|(((with_reducible apply wp_cond_split);exact rfl)<;>intro hb<;>(try simp only [SPLT] at hb)<;>(try (have hbl:=And.left hb;have hbr:=And.right hb))<;>(try (have hbll:=And.left hbl;have hblr:=And.right hbl))<;>(try exact spE))|((with_reducible apply (wp_region_lit (id:=8)));((apply l_move);exact evE;(try simp only [SS,Nat.reduceAdd]));((apply l_neq);exact rfl;exact rfl;(try simp only [SS,Nat.reduceAdd]));(apply wpList_nil))|((fail_if_success with_reducible first|apply no_region|apply no_list|apply no_par|apply no_loop);go_step))
    ·obtain ⟨b1,c1,hv,_⟩:=(hT.ext hx).row 0 (by decide)
     ((with_reducible apply (wp_region_par (id:=9)));kernel_rfl;kernel_rfl;exact rfl)
     (apply p_move);exact evE;(try simp only [SS,Nat.reduceAdd])
     (apply p_move);exact evE;(try simp only [SS,Nat.reduceAdd])
     (apply p_move);exact evE;(try simp only [SS,Nat.reduceAdd])
     (apply p_move);exact evE;(try simp only [SS,Nat.reduceAdd])
     (apply p_index_str);exact rfl;exact rfl;decide;decide;(try simp only [SS,Nat.reduceAdd])
     (apply p_nilCheck);exact rfl;(try simp only [SS,Nat.reduceAdd])
     (apply p_fieldAddr);exact rfl;(try simp only [SS,Nat.reduceAdd])
     (with_reducible apply (p_indexAddrA Tryz.underlying150));exact rfl;exact rfl;decide;decide;(try simp only [SS,Nat.reduceAdd])
     (apply p_load1);exact rfl;exact hv;(try simp only [SS,Nat.reduceAdd])
     (apply p_len_slice);exact rfl;(try simp only [SS,Nat.reduceAdd])
     (apply p_sub);exact rfl;exact rfl;(focus (apply IntWalk.i64_in;omega));(try simp only [SS,Nat.reduceAdd])
     (apply p_mul);exact rfl;exact rfl;(focus (apply IntWalk.i64_in;omega));(try simp only [SS,Nat.reduceAdd])
     (apply p_add);exact rfl;exact rfl;(focus (apply IntWalk.i64_in;omega));(try simp only [SS,Nat.reduceAdd])
     (apply p_assign);exact evE;(try simp only [SS,Nat.reduceAdd])
     with_reducible apply par_nil
     intro v9 hv9 _
     repeat' (first|((with_reducible apply wp_seq_k);intro K hK)|(simp only [Exit.then,Exit.inBlock,↓reduceIte,Nat.reduceEqDiff])|(with_reducible first|apply wp_block|apply wp_skip|apply wp_exit)|((with_reducible apply wp_cond_true);exact rfl)|((with_reducible apply wp_cond_false);exact rfl)|(((with_reducible apply wp_cond_split);exact rfl)<;>intro hb<;>(try simp only [SPLT] at hb)<;>(try (have hbl:=And.left hb;have hbr:=And.right hb))<;>(try (have hbll:=And.left hbl;have hblr:=And.right hbl))<;>(try exact spE))|((with_reducible apply (wp_region_lit (id:=10)));((apply l_assign);exact evE;(try simp only [SS,Nat.reduceAdd]));(apply wpList_nil))|((with_reducible apply (wp_region_lit (id:=11)));((apply l_add);exact rfl;exact rfl;(focus (first|(apply IntWalk.i64_in;omega)|exact IntWalk.i64_left _));(try simp only [SS,Nat.reduceAdd]));((apply l_move);exact evE;(try simp only [SS,Nat.reduceAdd]));(apply wpList_nil))|((fail_if_success with_reducible first|apply no_region|apply no_list|apply no_par|apply no_loop);go_step))
     refine ⟨⟨hx.trans hv9,.inr (.inl ⟨rfl,?_,?_⟩)⟩,by decide⟩
     ·congr 1;omega
     ·rw [decide_eq_true (show (0:Int) < s.count 34 by omega)]
    ·repeat' (first|((with_reducible apply wp_seq_k);intro K hK)|(simp only [Exit.then,Exit.inBlock,↓reduceIte,Nat.reduceEqDiff])|(with_reducible first|apply wp_block|apply wp_skip|apply wp_exit)|((with_reducible apply wp_cond_true);exact rfl)|((with_reducible apply wp_cond_false);exact rfl)|(((with_reducible apply wp_cond_split);exact rfl)<;>intro hb<;>(try simp only [SPLT] at hb)<;>(try (have hbl:=And.left hb;have hbr:=And.right hb))<;>(try (have hbll:=And.left hbl;have hblr:=And.right hbl))<;>(try exact spE))|((with_reducible apply (wp_region_lit (id:=11)));((apply l_add);exact rfl;exact rfl;(focus (first|(apply IntWalk.i64_in;omega)|exact IntWalk.i64_left _));(try simp only [SS,Nat.reduceAdd]));((apply l_move);exact evE;(try simp only [SS,Nat.reduceAdd]));(apply wpList_nil))|((fail_if_success with_reducible first|apply no_region|apply no_list|apply no_par|apply no_loop);go_step))
     refine ⟨⟨hx,.inr (.inl ⟨rfl,?_,?_⟩)⟩,by decide⟩
     ·congr 1;omega
     ·rw [decide_eq_false (show ¬ (0:Int) < s.count 34 by omega)]
   ·repeat' (first|((with_reducible apply wp_seq_k);intro K hK)|(simp only [Exit.then,Exit.inBlock,↓reduceIte,Nat.reduceEqDiff])|(with_reducible first|apply wp_block|apply wp_skip|apply wp_exit)|((with_reducible apply wp_cond_true);exact rfl)|((with_reducible apply wp_cond_false);exact rfl)|(((with_reducible apply wp_cond_split);exact rfl)<;>intro hb<;>(try simp only [SPLT] at hb)<;>(try (have hbl:=And.left hb;have hbr:=And.right hb))<;>(try (have hbll:=And.left hbl;have hblr:=And.right hbl))<;>(try exact spE))|((with_reducible apply (wp_region_lit (id:=5)));((apply l_lss);exact rfl;exact rfl;(try simp only [SS,Nat.reduceAdd]));(apply wpList_nil))|((fail_if_success with_reducible first|apply no_region|apply no_list|apply no_par|apply no_loop);go_step))
    with_reducible apply (wp_region_lit (id:=6))
    (apply l_indexAddr);exact rfl;exact rfl;omega;omega;(try simp only [SS,Nat.reduceAdd])
    (apply l_load1);exact rfl;exact (hlr.ext hx) 1 _ rfl;(try simp only [SS,Nat.reduceAdd])
    (apply l_assign);exact evE;(try simp only [SS,Nat.reduceAdd])
    apply wpList_nil
    repeat' (first|(with_reducible first|apply wp_block|apply wp_skip|apply wp_exit)|((with_reducible apply wp_seq_k);intro K hK)|simp only [Exit.then,Exit.inBlock,↓reduceIte,Nat.reduceEqDiff]|((with_reducible apply wp_cond_true);exact rfl)|((with_reducible apply wp_cond_false);exact rfl)|((fail_if_success with_reducible apply no_region);go_step))
    with_reducible apply (wp_region_lit (id:=7))
    (apply l_move);exact evE;(try simp only [SS,Nat.reduceAdd])
    (apply l_move);exact evE;(try simp only [SS,Nat.reduceAdd])
    refine l_enter (al := [.string ⟨s.toArray⟩,.string ⟨#[92]⟩]) rfl ?_
    refine (Tryz.strings_Count_one ⟨s.toArray⟩ 92 wr).mono fun e w3 ⟨he,hw3⟩ => ?_
    subst he
    subst hw3
    change wpList _ _ _ _ (Act.put _ _ (.int .i64 (s.count 92:Nat))) _
    (try simp only [SS,Nat.reduceAdd])
    (apply l_assign);exact evE;(try simp only [SS,Nat.reduceAdd])
    apply wpList_nil
    have hcl:s.count 92≤s.length:=List.count_le_length
    have hcl2:s.count 34≤s.length:=List.count_le_length
    repeat' (first|((with_reducible apply wp_seq_k);intro K hK)|(simp only [Exit.then,Exit.inBlock,↓reduceIte,Nat.reduceEqDiff])|(with_reducible first|apply wp_block|apply wp_skip|apply wp_exit)|((with_reducible apply wp_cond_true);exact rfl)|((with_reducible apply wp_cond_false);exact rfl)|(((with_reducible apply wp_cond_split);exact rfl)<;>intro hb<;>(try simp only [SPLT] at hb)<;>(try (have hbl:=And.left hb;have hbr:=And.right hb))<;>(try (have hbll:=And.left hbl;have hblr:=And.right hbl))<;>(try exact spE))|((with_reducible apply (wp_region_lit (id:=8)));((apply l_move);exact evE;(try simp only [SS,Nat.reduceAdd]));((apply l_neq);exact rfl;exact rfl;(try simp only [SS,Nat.reduceAdd]));(apply wpList_nil))|((fail_if_success with_reducible first|apply no_region|apply no_list|apply no_par|apply no_loop);go_step))
    ·obtain ⟨b1,c1,hv,_⟩:=(hT.ext hx).row 1 (by decide)
     ((with_reducible apply (wp_region_par (id:=9)));kernel_rfl;kernel_rfl;exact rfl)
     (apply p_move);exact evE;(try simp only [SS,Nat.reduceAdd])
     (apply p_move);exact evE;(try simp only [SS,Nat.reduceAdd])
     (apply p_move);exact evE;(try simp only [SS,Nat.reduceAdd])
     (apply p_move);exact evE;(try simp only [SS,Nat.reduceAdd])
     (apply p_index_str);exact rfl;exact rfl;decide;decide;(try simp only [SS,Nat.reduceAdd])
     (apply p_nilCheck);exact rfl;(try simp only [SS,Nat.reduceAdd])
     (apply p_fieldAddr);exact rfl;(try simp only [SS,Nat.reduceAdd])
     (with_reducible apply (p_indexAddrA Tryz.underlying150));exact rfl;exact rfl;decide;decide;(try simp only [SS,Nat.reduceAdd])
     (apply p_load1);exact rfl;exact hv;(try simp only [SS,Nat.reduceAdd])
     (apply p_len_slice);exact rfl;(try simp only [SS,Nat.reduceAdd])
     (apply p_sub);exact rfl;exact rfl;(focus (apply IntWalk.i64_in;omega));(try simp only [SS,Nat.reduceAdd])
     (apply p_mul);exact rfl;exact rfl;(focus (apply IntWalk.i64_in;omega));(try simp only [SS,Nat.reduceAdd])
     (apply p_add);exact rfl;exact rfl;(focus (apply IntWalk.i64_in;omega));(try simp only [SS,Nat.reduceAdd])
     (apply p_assign);exact evE;(try simp only [SS,Nat.reduceAdd])
     with_reducible apply par_nil
     intro v9 hv9 _
     repeat' (first|((with_reducible apply wp_seq_k);intro K hK)|(simp only [Exit.then,Exit.inBlock,↓reduceIte,Nat.reduceEqDiff])|(with_reducible first|apply wp_block|apply wp_skip|apply wp_exit)|((with_reducible apply wp_cond_true);exact rfl)|((with_reducible apply wp_cond_false);exact rfl)|(((with_reducible apply wp_cond_split);exact rfl)<;>intro hb<;>(try simp only [SPLT] at hb)<;>(try (have hbl:=And.left hb;have hbr:=And.right hb))<;>(try (have hbll:=And.left hbl;have hblr:=And.right hbl))<;>(try exact spE))|((with_reducible apply (wp_region_lit (id:=10)));((apply l_assign);exact evE;(try simp only [SS,Nat.reduceAdd]));(apply wpList_nil))|((with_reducible apply (wp_region_lit (id:=11)));((apply l_add);exact rfl;exact rfl;(focus (first|(apply IntWalk.i64_in;omega)|exact IntWalk.i64_left _));(try simp only [SS,Nat.reduceAdd]));((apply l_move);exact evE;(try simp only [SS,Nat.reduceAdd]));(apply wpList_nil))|((fail_if_success with_reducible first|apply no_region|apply no_list|apply no_par|apply no_loop);go_step))
     refine ⟨⟨hx.trans hv9,.inr (.inr ⟨rfl,?_,?_⟩)⟩,by decide⟩
     ·unfold sp;congr 1;omega
     ·rw [decide_eq_true (show (0:Int) < sp s by unfold sp;omega)]
    ·repeat' (first|((with_reducible apply wp_seq_k);intro K hK)|(simp only [Exit.then,Exit.inBlock,↓reduceIte,Nat.reduceEqDiff])|(with_reducible first|apply wp_block|apply wp_skip|apply wp_exit)|((with_reducible apply wp_cond_true);exact rfl)|((with_reducible apply wp_cond_false);exact rfl)|(((with_reducible apply wp_cond_split);exact rfl)<;>intro hb<;>(try simp only [SPLT] at hb)<;>(try (have hbl:=And.left hb;have hbr:=And.right hb))<;>(try (have hbll:=And.left hbl;have hblr:=And.right hbl))<;>(try exact spE))|((with_reducible apply (wp_region_lit (id:=11)));((apply l_add);exact rfl;exact rfl;(focus (first|(apply IntWalk.i64_in;omega)|exact IntWalk.i64_left _));(try simp only [SS,Nat.reduceAdd]));((apply l_move);exact evE;(try simp only [SS,Nat.reduceAdd]));(apply wpList_nil))|((fail_if_success with_reducible first|apply no_region|apply no_list|apply no_par|apply no_loop);go_step))
     refine ⟨⟨hx,.inr (.inr ⟨rfl,?_,?_⟩)⟩,by decide⟩
     ·unfold sp;congr 1;omega
     ·have e0:s.count 92=0:=by omega
      unfold sp;rw [e0,Nat.add_zero]
   ·repeat' (first|((with_reducible apply wp_seq_k);intro K hK)|(simp only [Exit.then,Exit.inBlock,↓reduceIte,Nat.reduceEqDiff])|(with_reducible first|apply wp_block|apply wp_skip|apply wp_exit)|((with_reducible apply wp_cond_true);exact rfl)|((with_reducible apply wp_cond_false);exact rfl)|(((with_reducible apply wp_cond_split);exact rfl)<;>intro hb<;>(try simp only [SPLT] at hb)<;>(try (have hbl:=And.left hb;have hbr:=And.right hb))<;>(try (have hbll:=And.left hbl;have hblr:=And.right hbl))<;>(try exact spE))|((with_reducible apply (wp_region_lit (id:=5)));((apply l_lss);exact rfl;exact rfl;(try simp only [SS,Nat.reduceAdd]));(apply wpList_nil))|((with_reducible apply (wp_region_lit (id:=19)));((apply l_move);exact evE;(try simp only [SS,Nat.reduceAdd]));((apply l_not);exact rfl;(try simp only [SS,Nat.reduceAdd]));(apply wpList_nil))|((with_reducible apply (wp_region_lit (id:=20)));((apply l_move);exact evE;(try simp only [SS,Nat.reduceAdd]));((apply l_assign);exact evE;(try simp only [SS,Nat.reduceAdd]));(apply wpList_nil))|((fail_if_success with_reducible first|apply no_region|apply no_list|apply no_par|apply no_loop);go_step))
    ·have h0:sp s=0:=by omega
     go_ret
     exact ⟨by rw [escS_none h0];rfl,hx⟩
    ·have hlen:=escS_len' s
     have hspl:=sp_len s
     with_reducible apply (wp_region_lit (id:=21))
     (apply l_move);exact evE;(try simp only [SS,Nat.reduceAdd])
     refine l_makeSlice (L:=(escS s).length) (N:=(escS s).length) (by rw [hlen];exact rfl) (by rw [hlen];exact rfl) (Nat.le_refl _) (by omega) (by decide) fun gb w2 cu hb2 hs2 hx2 hg2 => ?_
     (try simp only [SS,Nat.reduceAdd])
     (apply l_assign);exact evE;(try simp only [SS,Nat.reduceAdd])
     apply wpList_nil
     have hgb:w.heap.size≤gb:=by have:=hx.sizeOf;omega
     have hbuf:Buf w2 gb (escS s).length []:=⟨cu,hb2,by rw [hs2,Nat.mul_one],rfl⟩
     have hx2':=hx.trans hx2
     clear hb2 hs2 hg2
     repeat' (first|((with_reducible apply wp_seq_k);intro K hK)|(simp only [Exit.then,Exit.inBlock,↓reduceIte,Nat.reduceEqDiff])|(with_reducible first|apply wp_block|apply wp_skip|apply wp_exit)|((with_reducible apply wp_cond_true);exact rfl)|((with_reducible apply wp_cond_false);exact rfl)|(((with_reducible apply wp_cond_split);exact rfl)<;>intro hb<;>(try simp only [SPLT] at hb)<;>(try (have hbl:=And.left hb;have hbr:=And.right hb))<;>(try (have hbll:=And.left hbl;have hblr:=And.right hbl))<;>(try exact spE))|((with_reducible apply (wp_region_lit (id:=22)));((apply l_assign);exact evE;(try simp only [SS,Nat.reduceAdd]));(apply wpList_nil))|((with_reducible apply (wp_region_lit (id:=23)));((apply l_assign);exact evE;(try simp only [SS,Nat.reduceAdd]));(apply wpList_nil))|((fail_if_success with_reducible first|apply no_region|apply no_list|apply no_par|apply no_loop);go_step))
     go_loopw [13,14] (fun v13 v14 wr=>∃ k,k≤s.length∧v14=.int .i64 k∧v13=.int .i64 (escS (s.take k)).length∧Buf wr gb (escS s).length (escS (s.take k))∧Ext w wr) (fun _ v14 _=>s.length - idxOf v14)
     case atStart=>exact ⟨0,Nat.zero_le _,rfl,rfl,hbuf,hx2'⟩
     case round=>
      obtain ⟨k,hk,rfl,rfl,⟨cur,hbk,hsz,htk⟩,hxk⟩:=hrel
      repeat' (first|((with_reducible apply wp_seq_k);intro K hK)|(simp only [Exit.then,Exit.inBlock,↓reduceIte,Nat.reduceEqDiff])|(with_reducible first|apply wp_block|apply wp_skip|apply wp_exit)|((with_reducible apply wp_cond_true);exact rfl)|((with_reducible apply wp_cond_false);exact rfl)|(((with_reducible apply wp_cond_split);exact rfl)<;>intro hb<;>(try simp only [SPLT] at hb)<;>(try (have hbl:=And.left hb;have hbr:=And.right hb))<;>(try (have hbll:=And.left hbl;have hblr:=And.right hbl))<;>(try exact spE))|((with_reducible apply (wp_region_lit (id:=24)));((apply l_move);exact evE;(try simp only [SS,Nat.reduceAdd]));((apply l_move);exact evE;(try simp only [SS,Nat.reduceAdd]));((apply l_len_str);exact rfl;(try simp only [SS,Nat.reduceAdd]));((apply l_lss);exact rfl;exact rfl;(try simp only [SS,Nat.reduceAdd]));(apply wpList_nil))|((fail_if_success with_reducible first|apply no_region|apply no_list|apply no_par|apply no_loop);go_step))
      ·have hkl:k < s.length:=by omega
       obtain ⟨c,hc⟩:∃ c,s[k]?=some c:=⟨_,List.getElem?_eq_getElem hkl⟩
       have hat:=escS_at hc
       have hgl:(escS (s.take (k+1))).length≤(escS s).length:=by
        rw [escS_len',escS_len',List.length_take]
        have:=sp_le s (k+1)
        omega
       have hcd:s.getD ((k:Int).toNat) 0=c:=by rw [Int.toNat_natCast,List.getD_eq_getElem?_getD,hc];rfl
       obtain ⟨v,hv,hcase⟩:=(hT.ext hxk).at c
       with_reducible apply (wp_region_lit (id:=26))
       (apply l_move);exact evE;(try simp only [SS,Nat.reduceAdd])
       (apply l_move);exact evE;(try simp only [SS,Nat.reduceAdd])
       (apply l_index_str);exact rfl;exact rfl;omega;omega;rw [hcd];(try simp only [SS,Nat.reduceAdd])
       (apply l_assign);exact evE;(try simp only [SS,Nat.reduceAdd])
       apply wpList_nil
       repeat' (first|(with_reducible first|apply wp_block|apply wp_skip|apply wp_exit)|((with_reducible apply wp_seq_k);intro K hK)|simp only [Exit.then,Exit.inBlock,↓reduceIte,Nat.reduceEqDiff]|((with_reducible apply wp_cond_true);exact rfl)|((with_reducible apply wp_cond_false);exact rfl)|((fail_if_success with_reducible apply no_region);go_step))
       rcases hcase with ⟨hsp,b1,c1,rfl,hr1⟩|⟨hsp,rfl⟩
       ·have eb:escB c = [92,c]:=by unfold escB;rw [if_pos hsp]
        rw [eb] at hat
        rw [hat,List.length_append] at hgl
        have hgl':(escS (s.take k)).length+2≤(escS s).length:=hgl
        with_reducible apply (wp_region_lit (id:=27))
        (apply l_move);exact evE;(try simp only [SS,Nat.reduceAdd])
        (apply l_move);exact evE;(try simp only [SS,Nat.reduceAdd])
        (apply l_nilCheck);exact rfl;(try simp only [SS,Nat.reduceAdd])
        (apply l_fieldAddr);exact rfl;(try simp only [SS,Nat.reduceAdd])
        refine l_indexAddrA Tryz.underlying150 rfl rfl (by omega) (by have:=c.toNat_lt;omega) ?_
        (try simp only [SS,Nat.reduceAdd])
        (apply l_load1);exact rfl;exact hv;(try simp only [SS,Nat.reduceAdd])
        refine l_slSome Tryz.underlying66 rfl ?_
        (try simp only [SS,Nat.reduceAdd])
        apply wpList_nil
        repeat' (first|(with_reducible first|apply wp_block|apply wp_skip|apply wp_exit)|((with_reducible apply wp_seq_k);intro K hK)|simp only [Exit.then,Exit.inBlock,↓reduceIte,Nat.reduceEqDiff]|((with_reducible apply wp_cond_true);exact rfl)|((with_reducible apply wp_cond_false);exact rfl)|((fail_if_success with_reducible apply no_region);go_step))
        (with_reducible apply (wp_region_ways (id:=28) 12 (waysB gb 10)));kernel_rfl;kernel_rfl;kernel_rfl;(focus exact of_decide_eq_true rfl)
        (focus (intro i hi hic;have h11:i=11:=(by have hi':(decide (i=10) || decide (i=10+1))=true:=hi;have hic':i ≠ 10:=hic;simp at hi';omega);subst h11;change reachB _ _ 11 10=true;kernel_rfl))
        exact rfl
        simp only [List.take_succ_cons,List.take_zero]
        have hneb:b ≠ gb:=fun e=>by subst e;have h0:b < w.heap.size:=block_lt_of_cell hl;omega
        (with_reducible apply (w_val (v:=.int .i64 (escS (s.take k)).length) rfl (show (0:Nat) ≠ 10 by decide)));(focus (intro w1 hw1 K1 hK1;exact r_move rfl hK1));(try simp only [SS,Nat.reduceAdd])
        (with_reducible apply (w_val (v:=.slice (some ⟨gb,0,none⟩) (escS s).length (escS s).length) rfl (show (1:Nat) ≠ 10 by decide)));(focus (intro w1 hw1 K1 hK1;exact r_move rfl hK1));(try simp only [SS,Nat.reduceAdd])
        (with_reducible apply (w_val (v:=.int .i64 (escS (s.take k)).length) rfl (show (2:Nat) ≠ 10 by decide)));(focus (intro w1 hw1 K1 hK1;exact r_move rfl hK1));(try simp only [SS,Nat.reduceAdd])
        (with_reducible apply (w_val (v:=.slice (some ⟨gb,(escS (s.take k)).length,none⟩) ((escS s).length - (escS (s.take k)).length) ((escS s).length - (escS (s.take k)).length)) rfl (show (3:Nat) ≠ 10 by decide)));(focus (intro w1 hw1 K1 hK1;exact r_sliceFrom (j:=(escS (s.take k)).length) rfl rfl (by omega) (Nat.le_refl _) hK1));(try simp only [SS,Nat.reduceAdd])
        (with_reducible apply (w_val (v:=.pointer (some ⟨b,0,none⟩)) rfl (show (4:Nat) ≠ 10 by decide)));(focus (intro w1 hw1 K1 hK1;exact r_move rfl hK1));(try simp only [SS,Nat.reduceAdd])
        (with_reducible apply (w_val (v:=.int .u8 c.toNat) rfl (show (5:Nat) ≠ 10 by decide)));(focus (intro w1 hw1 K1 hK1;exact r_move rfl hK1));(try simp only [SS,Nat.reduceAdd])
        (with_reducible apply (w_val (v:=.pointer (some ⟨b,0,none⟩)) rfl (show (6:Nat) ≠ 10 by decide)));(focus (intro w1 hw1 K1 hK1;exact r_nilCheck rfl hK1));(try simp only [SS,Nat.reduceAdd])
        (with_reducible apply (w_val (v:=.pointer (some ⟨b,0,none⟩)) rfl (show (7:Nat) ≠ 10 by decide)));(focus (intro w1 hw1 K1 hK1;exact r_fieldAddr rfl hK1));(try simp only [SS,Nat.reduceAdd])
        (with_reducible apply (w_val (v:=.pointer (some ⟨b,c.toNat,none⟩)) rfl (show (8:Nat) ≠ 10 by decide)));(focus (intro w1 hw1 K1 hK1;refine r_indexAddrA Tryz.underlying150 rfl rfl (by omega) (by have:=c.toNat_lt;omega) ?_;rw [show 0+(c.toNat:Int).toNat * 1=c.toNat by omega];exact hK1));(try simp only [SS,Nat.reduceAdd])
        (with_reducible apply (w_val (v:=.slice (some ⟨b1,0,none⟩) 2 c1) rfl (show (9:Nat) ≠ 10 by decide)));(focus (intro w1 hw1 K1 hK1;exact r_load1 rfl (Bel.cell hw1 hneb hv) hK1));(try simp only [SS,Nat.reduceAdd])
        (with_reducible apply (w_do (v:=.int .i64 2) (R:=fun w'=>Blk w' gb 5 ((cur.setIfInBounds (escS (s.take k)).length (.int .u8 92)).setIfInBounds ((escS (s.take k)).length+1) (.int .u8 c.toNat))) (W:=waysB gb 10) (i:=10) (fun _ _ hx h=>h.ext hx) rfl rfl rfl));(focus (intro w1 hw1 K1 hK1;exact r_copy2 (t':=5) (cur:=cur) rfl rfl (by omega) (hr1.ext hw1) rfl rfl (hbk.ext hw1) (by omega) (hK1 _ (((hbk.ext hw1).setCell _ _).setCell _ _) ((Bel.setCell _ _).trans (Bel.setCell _ _)))));(try simp only [SS,Nat.reduceAdd])
        (with_reducible apply (w_val (v:=.int .i64 (((escS (s.take k)).length:Int)+2)) rfl (show (11:Nat) ≠ 10 by decide)));(focus (intro w1 hw1 K1 hK1;exact r_add rfl rfl (by apply IntWalk.i64_in;omega) hK1));(try simp only [SS,Nat.reduceAdd])
        refine w_nil fun w9 hR9 hf9 => ?_
        have hb9:=hf9 (fun w'=>Blk w' gb 5 ((cur.setIfInBounds (escS (s.take k)).length (.int .u8 92)).setIfInBounds ((escS (s.take k)).length+1) (.int .u8 c.toNat))) (by simp)
        have hx9:Ext w w9:=Bel.ext hR9 hxk hgb
        obtain ⟨q1,q2⟩:=Buf.put hsz htk (by omega) 92
        obtain ⟨q3,q4⟩:=Buf.put q1 q2 (by rw [List.length_append];exact hgl') c
        have hbuf9:Buf w9 gb (escS s).length (escS (s.take (k+1))):=by
         rw [hat,show escS (s.take k) ++ [92,c]=escS (s.take k) ++ [92] ++ [c] by simp]
         exact ⟨_,by rw [List.length_append];exact hb9,q3,q4⟩
        unfold tailQ
        simp only [List.drop_succ_cons,List.drop_zero]
        (apply l_assign);exact evE;(try simp only [SS,Nat.reduceAdd])
        apply wpList_nil
        refine NoPanic.normal ?_
        repeat' (first|((with_reducible apply wp_seq_k);intro K hK)|(simp only [Exit.then,Exit.inBlock,↓reduceIte,Nat.reduceEqDiff])|(with_reducible first|apply wp_block|apply wp_skip|apply wp_exit)|((with_reducible apply wp_cond_true);exact rfl)|((with_reducible apply wp_cond_false);exact rfl)|(((with_reducible apply wp_cond_split);exact rfl)<;>intro hb<;>(try simp only [SPLT] at hb)<;>(try (have hbl:=And.left hb;have hbr:=And.right hb))<;>(try (have hbll:=And.left hbl;have hblr:=And.right hbl))<;>(try exact spE))|((with_reducible apply (wp_region_lit (id:=25)));((apply l_move);exact evE;(try simp only [SS,Nat.reduceAdd]));((apply l_add);exact rfl;exact rfl;(focus (first|(apply IntWalk.i64_in;omega)|exact IntWalk.i64_left _));(try simp only [SS,Nat.reduceAdd]));((apply l_assign);exact evE;(try simp only [SS,Nat.reduceAdd]));(apply wpList_nil))|((fail_if_success with_reducible first|apply no_region|apply no_list|apply no_par|apply no_loop);go_step))
        refine ⟨⟨k+1,by omega,rfl,?_,hbuf9,hx9⟩,?_⟩
        ·rw [hat,List.length_append];rfl
        ·simp only [idxOf]
         omega
       ·have eb:escB c = [c]:=by unfold escB;rw [if_neg hsp]
        rw [eb] at hat
        rw [hat,List.length_append] at hgl
        have hgl':(escS (s.take k)).length+1≤(escS s).length:=hgl
        with_reducible apply (wp_region_lit (id:=27))
        (apply l_move);exact evE;(try simp only [SS,Nat.reduceAdd])
        (apply l_move);exact evE;(try simp only [SS,Nat.reduceAdd])
        (apply l_nilCheck);exact rfl;(try simp only [SS,Nat.reduceAdd])
        (apply l_fieldAddr);exact rfl;(try simp only [SS,Nat.reduceAdd])
        refine l_indexAddrA Tryz.underlying150 rfl rfl (by omega) (by have:=c.toNat_lt;omega) ?_
        (try simp only [SS,Nat.reduceAdd])
        (apply l_load1);exact rfl;exact hv;(try simp only [SS,Nat.reduceAdd])
        refine l_slSome Tryz.underlying66 rfl ?_
        (try simp only [SS,Nat.reduceAdd])
        apply wpList_nil
        repeat' (first|(with_reducible first|apply wp_block|apply wp_skip|apply wp_exit)|((with_reducible apply wp_seq_k);intro K hK)|simp only [Exit.then,Exit.inBlock,↓reduceIte,Nat.reduceEqDiff]|((with_reducible apply wp_cond_true);exact rfl)|((with_reducible apply wp_cond_false);exact rfl)|((fail_if_success with_reducible apply no_region);go_step))
        with_reducible apply (wp_region_lit (id:=29))
        (apply l_move);exact evE;(try simp only [SS,Nat.reduceAdd])
        (apply l_move);exact evE;(try simp only [SS,Nat.reduceAdd])
        (apply l_move);exact evE;(try simp only [SS,Nat.reduceAdd])
        (apply l_indexAddr);exact rfl;exact rfl;omega;omega;(try simp only [SS,Nat.reduceAdd])
        refine wpList_plain rfl fun K1 hK1=>r_store (n:=1) (o:=(escS (s.take k)).length) (by kernel_rfl) rfl (us := [.int .u8 c.toNat]) rfl rfl (by simp [Value.oneCell']) hbk (by omega) (hK1 _ _ ?_)
        rw [putA (by omega)]
        have wr8:=Writes.row hbk (cur.setIfInBounds (escS (s.take k)).length (.int .u8 c.toNat)) (by simp)
        change wpList _ _ _ _ _ (wr.setRow gb (cur.setIfInBounds (escS (s.take k)).length (.int .u8 c.toNat)))
        generalize wr.setRow gb (cur.setIfInBounds (escS (s.take k)).length (.int .u8 c.toNat))=w8 at wr8 ⊢
        obtain ⟨q1,q2⟩:=Buf.put hsz htk (by omega) c
        have hbuf8:Buf w8 gb (escS s).length (escS (s.take (k+1))):=by
         rw [hat]
         exact ⟨_,wr8.now,q1,q2⟩
        have hx8:Ext w w8:=Below.trans hxk ⟨wr8.os,wr8.tape,wr8.output,Nat.le_of_eq wr8.size.symm,fun k' hk'=>wr8.other k' (by omega)⟩
        apply wpList_nil
        repeat' (first|((with_reducible apply wp_seq_k);intro K hK)|(simp only [Exit.then,Exit.inBlock,↓reduceIte,Nat.reduceEqDiff])|(with_reducible first|apply wp_block|apply wp_skip|apply wp_exit)|((with_reducible apply wp_cond_true);exact rfl)|((with_reducible apply wp_cond_false);exact rfl)|(((with_reducible apply wp_cond_split);exact rfl)<;>intro hb<;>(try simp only [SPLT] at hb)<;>(try (have hbl:=And.left hb;have hbr:=And.right hb))<;>(try (have hbll:=And.left hbl;have hblr:=And.right hbl))<;>(try exact spE))|((with_reducible apply (wp_region_lit (id:=30)));((apply l_move);exact evE;(try simp only [SS,Nat.reduceAdd]));((apply l_add);exact rfl;exact rfl;(focus (first|(apply IntWalk.i64_in;omega)|exact IntWalk.i64_left _));(try simp only [SS,Nat.reduceAdd]));((apply l_assign);exact evE;(try simp only [SS,Nat.reduceAdd]));(apply wpList_nil))|((with_reducible apply (wp_region_lit (id:=25)));((apply l_move);exact evE;(try simp only [SS,Nat.reduceAdd]));((apply l_add);exact rfl;exact rfl;(focus (first|(apply IntWalk.i64_in;omega)|exact IntWalk.i64_left _));(try simp only [SS,Nat.reduceAdd]));((apply l_assign);exact evE;(try simp only [SS,Nat.reduceAdd]));(apply wpList_nil))|((fail_if_success with_reducible first|apply no_region|apply no_list|apply no_par|apply no_loop);go_step))
        have e1:(escS (s.take (k+1))).length=(escS (s.take k)).length+1:=by rw [hat,List.length_append];rfl
        refine ⟨⟨k+1,by omega,rfl,?_,hbuf8,hx8⟩,?_⟩
        ·rw [e1];rfl
        ·simp only [idxOf]
         omega
      ·have hkl:k=s.length:=by omega
       subst hkl
       rw [List.take_length] at htk
       with_reducible apply (wp_region_lit (id:=31))
       (apply l_move);exact evE;(try simp only [SS,Nat.reduceAdd])
       refine l_bytesStr (s:=escS s) rfl rfl (fun j y hj => ?_) ?_
       ·rw [hbk.cell,Nat.zero_add]
        have hl:(u8s (escS s))[j]?=some y:=hj
        rw [← htk,List.getElem?_take] at hl
        split at hl
        ·simpa using hl
        ·cases hl
       (try simp only [SS,Nat.reduceAdd])
       (apply l_assign);exact evE;(try simp only [SS,Nat.reduceAdd])
       apply wpList_nil
       repeat' (first|(with_reducible first|apply wp_block|apply wp_skip|apply wp_exit)|((with_reducible apply wp_seq_k);intro K hK)|simp only [Exit.then,Exit.inBlock,↓reduceIte,Nat.reduceEqDiff]|((with_reducible apply wp_cond_true);exact rfl)|((with_reducible apply wp_cond_false);exact rfl)|((fail_if_success with_reducible apply no_region);go_step))
       go_ret
       exact ⟨rfl,hxk⟩
 ·go_loopw [5,6,10] (fun v5 v6 v10 wr=>Ext w wr∧∃ k,k≤s.length∧v10=.int .i64 k∧v5=.int .i64 (s.length+sp (s.take k))∧v6=.bool (decide ((0:Int) < sp (s.take k)))) (fun _ _ v10 _=>s.length - idxOf v10)
  case atStart=>exact ⟨Ext.refl _,0,Nat.zero_le _,rfl,by simp [sp],by simp [sp]⟩
  case round=>
   obtain ⟨hx,k,hk,rfl,rfl,rfl⟩:=hrel
   repeat' (first|((with_reducible apply wp_seq_k);intro K hK)|(simp only [Exit.then,Exit.inBlock,↓reduceIte,Nat.reduceEqDiff])|(with_reducible first|apply wp_block|apply wp_skip|apply wp_exit)|((with_reducible apply wp_cond_true);exact rfl)|((with_reducible apply wp_cond_false);exact rfl)|(((with_reducible apply wp_cond_split);exact rfl)<;>intro hb<;>(try simp only [SPLT] at hb)<;>(try (have hbl:=And.left hb;have hbr:=And.right hb))<;>(try (have hbll:=And.left hbl;have hblr:=And.right hbl))<;>(try exact spE))|((with_reducible apply (wp_region_lit (id:=13)));((apply l_move);exact evE;(try simp only [SS,Nat.reduceAdd]));((apply l_move);exact evE;(try simp only [SS,Nat.reduceAdd]));((apply l_len_str);exact rfl;(try simp only [SS,Nat.reduceAdd]));((apply l_lss);exact rfl;exact rfl;(try simp only [SS,Nat.reduceAdd]));(apply wpList_nil))|((fail_if_success with_reducible first|apply no_region|apply no_list|apply no_par|apply no_loop);go_step))
   ·have hkl:k < s.length:=by omega
    obtain ⟨c,hc⟩:∃ c,s[k]?=some c:=⟨_,List.getElem?_eq_getElem hkl⟩
    have hcd:s.getD ((k:Int).toNat) 0=c:=by rw [Int.toNat_natCast,List.getD_eq_getElem?_getD,hc];rfl
    have hst:=sp_take hc
    have hsl:=sp_le s k
    have hsl2:=sp_len s
    obtain ⟨v,hv,hcase⟩:=(hT.ext hx).at c
    with_reducible apply (wp_region_lit (id:=15))
    (apply l_move);exact evE;(try simp only [SS,Nat.reduceAdd])
    (apply l_move);exact evE;(try simp only [SS,Nat.reduceAdd])
    (apply l_index_str);exact rfl;exact rfl;omega;omega;rw [hcd];(try simp only [SS,Nat.reduceAdd])
    (apply l_assign);exact evE;(try simp only [SS,Nat.reduceAdd])
    apply wpList_nil
    repeat' (first|(with_reducible first|apply wp_block|apply wp_skip|apply wp_exit)|((with_reducible apply wp_seq_k);intro K hK)|simp only [Exit.then,Exit.inBlock,↓reduceIte,Nat.reduceEqDiff]|((with_reducible apply wp_cond_true);exact rfl)|((with_reducible apply wp_cond_false);exact rfl)|((fail_if_success with_reducible apply no_region);go_step))
    rcases hcase with ⟨hsp,b1,c1,rfl,hr1⟩|⟨hsp,rfl⟩
    ·rw [if_pos hsp] at hst
     with_reducible apply (wp_region_lit (id:=16))
     (apply l_move);exact evE;(try simp only [SS,Nat.reduceAdd])
     (apply l_move);exact evE;(try simp only [SS,Nat.reduceAdd])
     (apply l_nilCheck);exact rfl;(try simp only [SS,Nat.reduceAdd])
     (apply l_fieldAddr);exact rfl;(try simp only [SS,Nat.reduceAdd])
     refine l_indexAddrA Tryz.underlying150 rfl rfl (by omega) (by have:=c.toNat_lt;omega) ?_
     (try simp only [SS,Nat.reduceAdd])
     (apply l_load1);exact rfl;exact hv;(try simp only [SS,Nat.reduceAdd])
     refine l_slSome Tryz.underlying66 rfl ?_
     (try simp only [SS,Nat.reduceAdd])
     apply wpList_nil
     repeat' (first|(with_reducible first|apply wp_block|apply wp_skip|apply wp_exit)|((with_reducible apply wp_seq_k);intro K hK)|simp only [Exit.then,Exit.inBlock,↓reduceIte,Nat.reduceEqDiff]|((with_reducible apply wp_cond_true);exact rfl)|((with_reducible apply wp_cond_false);exact rfl)|((fail_if_success with_reducible apply no_region);go_step))
     with_reducible apply (wp_region_lit (id:=17))
     (apply l_move);exact evE;(try simp only [SS,Nat.reduceAdd])
     (apply l_move);exact evE;(try simp only [SS,Nat.reduceAdd])
     (apply l_move);exact evE;(try simp only [SS,Nat.reduceAdd])
     (apply l_nilCheck);exact rfl;(try simp only [SS,Nat.reduceAdd])
     (apply l_fieldAddr);exact rfl;(try simp only [SS,Nat.reduceAdd])
     refine l_indexAddrA Tryz.underlying150 rfl rfl (by omega) (by have:=c.toNat_lt;omega) ?_
     (try simp only [SS,Nat.reduceAdd])
     (apply l_load1);exact rfl;exact hv;(try simp only [SS,Nat.reduceAdd])
     (apply l_len_slice);exact rfl;(try simp only [SS,Nat.reduceAdd])
     (apply l_sub);exact rfl;exact rfl;(focus (apply IntWalk.i64_in;omega));(try simp only [SS,Nat.reduceAdd])
     (apply l_add);exact rfl;exact rfl;(focus (apply IntWalk.i64_in;omega));(try simp only [SS,Nat.reduceAdd])
     (apply l_assign);exact evE;(try simp only [SS,Nat.reduceAdd])
     apply wpList_nil
     repeat' (first|((with_reducible apply wp_seq_k);intro K hK)|(simp only [Exit.then,Exit.inBlock,↓reduceIte,Nat.reduceEqDiff])|(with_reducible first|apply wp_block|apply wp_skip|apply wp_exit)|((with_reducible apply wp_cond_true);exact rfl)|((with_reducible apply wp_cond_false);exact rfl)|(((with_reducible apply wp_cond_split);exact rfl)<;>intro hb<;>(try simp only [SPLT] at hb)<;>(try (have hbl:=And.left hb;have hbr:=And.right hb))<;>(try (have hbll:=And.left hbl;have hblr:=And.right hbl))<;>(try exact spE))|((with_reducible apply (wp_region_lit (id:=18)));((apply l_assign);exact evE;(try simp only [SS,Nat.reduceAdd]));(apply wpList_nil))|((with_reducible apply (wp_region_lit (id:=14)));((apply l_move);exact evE;(try simp only [SS,Nat.reduceAdd]));((apply l_add);exact rfl;exact rfl;(focus (first|(apply IntWalk.i64_in;omega)|exact IntWalk.i64_left _));(try simp only [SS,Nat.reduceAdd]));((apply l_assign);exact evE;(try simp only [SS,Nat.reduceAdd]));(apply wpList_nil))|((fail_if_success with_reducible first|apply no_region|apply no_list|apply no_par|apply no_loop);go_step))
     refine ⟨⟨hx,k+1,by omega,rfl,?_,?_⟩,?_⟩
     ·rw [hst];congr 1
     ·rw [decide_eq_true (show (0:Int) < sp (s.take (k+1)) by omega)]
     ·simp only [idxOf]
      omega
    ·rw [if_neg hsp,Nat.add_zero] at hst
     with_reducible apply (wp_region_lit (id:=16))
     (apply l_move);exact evE;(try simp only [SS,Nat.reduceAdd])
     (apply l_move);exact evE;(try simp only [SS,Nat.reduceAdd])
     (apply l_nilCheck);exact rfl;(try simp only [SS,Nat.reduceAdd])
     (apply l_fieldAddr);exact rfl;(try simp only [SS,Nat.reduceAdd])
     refine l_indexAddrA Tryz.underlying150 rfl rfl (by omega) (by have:=c.toNat_lt;omega) ?_
     (try simp only [SS,Nat.reduceAdd])
     (apply l_load1);exact rfl;exact hv;(try simp only [SS,Nat.reduceAdd])
     refine l_slSome Tryz.underlying66 rfl ?_
     (try simp only [SS,Nat.reduceAdd])
     apply wpList_nil
     repeat' (first|((with_reducible apply wp_seq_k);intro K hK)|(simp only [Exit.then,Exit.inBlock,↓reduceIte,Nat.reduceEqDiff])|(with_reducible first|apply wp_block|apply wp_skip|apply wp_exit)|((with_reducible apply wp_cond_true);exact rfl)|((with_reducible apply wp_cond_false);exact rfl)|(((with_reducible apply wp_cond_split);exact rfl)<;>intro hb<;>(try simp only [SPLT] at hb)<;>(try (have hbl:=And.left hb;have hbr:=And.right hb))<;>(try (have hbll:=And.left hbl;have hblr:=And.right hbl))<;>(try exact spE))|((with_reducible apply (wp_region_lit (id:=14)));((apply l_move);exact evE;(try simp only [SS,Nat.reduceAdd]));((apply l_add);exact rfl;exact rfl;(focus (first|(apply IntWalk.i64_in;omega)|exact IntWalk.i64_left _));(try simp only [SS,Nat.reduceAdd]));((apply l_assign);exact evE;(try simp only [SS,Nat.reduceAdd]));(apply wpList_nil))|((fail_if_success with_reducible first|apply no_region|apply no_list|apply no_par|apply no_loop);go_step))
     refine ⟨⟨hx,k+1,by omega,rfl,?_,?_⟩,?_⟩
     ·rw [hst];rfl
     ·rw [hst];rfl
     ·simp only [idxOf]
      omega
   ·have hkl:k=s.length:=by omega
    subst hkl
    rw [List.take_length]
    repeat' (first|((with_reducible apply wp_seq_k);intro K hK)|(simp only [Exit.then,Exit.inBlock,↓reduceIte,Nat.reduceEqDiff])|(with_reducible first|apply wp_block|apply wp_skip|apply wp_exit)|((with_reducible apply wp_cond_true);exact rfl)|((with_reducible apply wp_cond_false);exact rfl)|(((with_reducible apply wp_cond_split);exact rfl)<;>intro hb<;>(try simp only [SPLT] at hb)<;>(try (have hbl:=And.left hb;have hbr:=And.right hb))<;>(try (have hbll:=And.left hbl;have hblr:=And.right hbl))<;>(try exact spE))|((with_reducible apply (wp_region_lit (id:=19)));((apply l_move);exact evE;(try simp only [SS,Nat.reduceAdd]));((apply l_not);exact rfl;(try simp only [SS,Nat.reduceAdd]));(apply wpList_nil))|((with_reducible apply (wp_region_lit (id:=20)));((apply l_move);exact evE;(try simp only [SS,Nat.reduceAdd]));((apply l_assign);exact evE;(try simp only [SS,Nat.reduceAdd]));(apply wpList_nil))|((fail_if_success with_reducible first|apply no_region|apply no_list|apply no_par|apply no_loop);go_step))
    ·have h0:sp s=0:=by omega
     go_ret
     exact ⟨by rw [escS_none h0];rfl,hx⟩
    ·have hlen:=escS_len' s
     have hspl:=sp_len s
     with_reducible apply (wp_region_lit (id:=21))
     (apply l_move);exact evE;(try simp only [SS,Nat.reduceAdd])
     refine l_makeSlice (L:=(escS s).length) (N:=(escS s).length) (by rw [hlen];exact rfl) (by rw [hlen];exact rfl) (Nat.le_refl _) (by omega) (by decide) fun gb w2 cu hb2 hs2 hx2 hg2 => ?_
     (try simp only [SS,Nat.reduceAdd])
     (apply l_assign);exact evE;(try simp only [SS,Nat.reduceAdd])
     apply wpList_nil
     have hgb:w.heap.size≤gb:=by have:=hx.sizeOf;omega
     have hbuf:Buf w2 gb (escS s).length []:=⟨cu,hb2,by rw [hs2,Nat.mul_one],rfl⟩
     have hx2':=hx.trans hx2
     clear hb2 hs2 hg2
     repeat' (first|((with_reducible apply wp_seq_k);intro K hK)|(simp only [Exit.then,Exit.inBlock,↓reduceIte,Nat.reduceEqDiff])|(with_reducible first|apply wp_block|apply wp_skip|apply wp_exit)|((with_reducible apply wp_cond_true);exact rfl)|((with_reducible apply wp_cond_false);exact rfl)|(((with_reducible apply wp_cond_split);exact rfl)<;>intro hb<;>(try simp only [SPLT] at hb)<;>(try (have hbl:=And.left hb;have hbr:=And.right hb))<;>(try (have hbll:=And.left hbl;have hblr:=And.right hbl))<;>(try exact spE))|((with_reducible apply (wp_region_lit (id:=22)));((apply l_assign);exact evE;(try simp only [SS,Nat.reduceAdd]));(apply wpList_nil))|((with_reducible apply (wp_region_lit (id:=23)));((apply l_assign);exact evE;(try simp only [SS,Nat.reduceAdd]));(apply wpList_nil))|((fail_if_success with_reducible first|apply no_region|apply no_list|apply no_par|apply no_loop);go_step))
     go_loopw [13,14] (fun v13 v14 wr=>∃ k,k≤s.length∧v14=.int .i64 k∧v13=.int .i64 (escS (s.take k)).length∧Buf wr gb (escS s).length (escS (s.take k))∧Ext w wr) (fun _ v14 _=>s.length - idxOf v14)
     case atStart=>exact ⟨0,Nat.zero_le _,rfl,rfl,hbuf,hx2'⟩
     case round=>
      obtain ⟨k,hk,rfl,rfl,⟨cur,hbk,hsz,htk⟩,hxk⟩:=hrel
      repeat' (first|((with_reducible apply wp_seq_k);intro K hK)|(simp only [Exit.then,Exit.inBlock,↓reduceIte,Nat.reduceEqDiff])|(with_reducible first|apply wp_block|apply wp_skip|apply wp_exit)|((with_reducible apply wp_cond_true);exact rfl)|((with_reducible apply wp_cond_false);exact rfl)|(((with_reducible apply wp_cond_split);exact rfl)<;>intro hb<;>(try simp only [SPLT] at hb)<;>(try (have hbl:=And.left hb;have hbr:=And.right hb))<;>(try (have hbll:=And.left hbl;have hblr:=And.right hbl))<;>(try exact spE))|((with_reducible apply (wp_region_lit (id:=24)));((apply l_move);exact evE;(try simp only [SS,Nat.reduceAdd]));((apply l_move);exact evE;(try simp only [SS,Nat.reduceAdd]));((apply l_len_str);exact rfl;(try simp only [SS,Nat.reduceAdd]));((apply l_lss);exact rfl;exact rfl;(try simp only [SS,Nat.reduceAdd]));(apply wpList_nil))|((fail_if_success with_reducible first|apply no_region|apply no_list|apply no_par|apply no_loop);go_step))
      ·have hkl:k < s.length:=by omega
       obtain ⟨c,hc⟩:∃ c,s[k]?=some c:=⟨_,List.getElem?_eq_getElem hkl⟩
       have hat:=escS_at hc
       have hgl:(escS (s.take (k+1))).length≤(escS s).length:=by
        rw [escS_len',escS_len',List.length_take]
        have:=sp_le s (k+1)
        omega
       have hcd:s.getD ((k:Int).toNat) 0=c:=by rw [Int.toNat_natCast,List.getD_eq_getElem?_getD,hc];rfl
       obtain ⟨v,hv,hcase⟩:=(hT.ext hxk).at c
       with_reducible apply (wp_region_lit (id:=26))
       (apply l_move);exact evE;(try simp only [SS,Nat.reduceAdd])
       (apply l_move);exact evE;(try simp only [SS,Nat.reduceAdd])
       (apply l_index_str);exact rfl;exact rfl;omega;omega;rw [hcd];(try simp only [SS,Nat.reduceAdd])
       (apply l_assign);exact evE;(try simp only [SS,Nat.reduceAdd])
       apply wpList_nil
       repeat' (first|(with_reducible first|apply wp_block|apply wp_skip|apply wp_exit)|((with_reducible apply wp_seq_k);intro K hK)|simp only [Exit.then,Exit.inBlock,↓reduceIte,Nat.reduceEqDiff]|((with_reducible apply wp_cond_true);exact rfl)|((with_reducible apply wp_cond_false);exact rfl)|((fail_if_success with_reducible apply no_region);go_step))
       rcases hcase with ⟨hsp,b1,c1,rfl,hr1⟩|⟨hsp,rfl⟩
       ·have eb:escB c = [92,c]:=by unfold escB;rw [if_pos hsp]
        rw [eb] at hat
        rw [hat,List.length_append] at hgl
        have hgl':(escS (s.take k)).length+2≤(escS s).length:=hgl
        with_reducible apply (wp_region_lit (id:=27))
        (apply l_move);exact evE;(try simp only [SS,Nat.reduceAdd])
        (apply l_move);exact evE;(try simp only [SS,Nat.reduceAdd])
        (apply l_nilCheck);exact rfl;(try simp only [SS,Nat.reduceAdd])
        (apply l_fieldAddr);exact rfl;(try simp only [SS,Nat.reduceAdd])
        refine l_indexAddrA Tryz.underlying150 rfl rfl (by omega) (by have:=c.toNat_lt;omega) ?_
        (try simp only [SS,Nat.reduceAdd])
        (apply l_load1);exact rfl;exact hv;(try simp only [SS,Nat.reduceAdd])
        refine l_slSome Tryz.underlying66 rfl ?_
        (try simp only [SS,Nat.reduceAdd])
        apply wpList_nil
        repeat' (first|(with_reducible first|apply wp_block|apply wp_skip|apply wp_exit)|((with_reducible apply wp_seq_k);intro K hK)|simp only [Exit.then,Exit.inBlock,↓reduceIte,Nat.reduceEqDiff]|((with_reducible apply wp_cond_true);exact rfl)|((with_reducible apply wp_cond_false);exact rfl)|((fail_if_success with_reducible apply no_region);go_step))
        (with_reducible apply (wp_region_ways (id:=28) 12 (waysB gb 10)));kernel_rfl;kernel_rfl;kernel_rfl;(focus exact of_decide_eq_true rfl)
        (focus (intro i hi hic;have h11:i=11:=(by have hi':(decide (i=10) || decide (i=10+1))=true:=hi;have hic':i ≠ 10:=hic;simp at hi';omega);subst h11;change reachB _ _ 11 10=true;kernel_rfl))
        exact rfl
        simp only [List.take_succ_cons,List.take_zero]
        have hneb:b ≠ gb:=fun e=>by subst e;have h0:b < w.heap.size:=block_lt_of_cell hl;omega
        (with_reducible apply (w_val (v:=.int .i64 (escS (s.take k)).length) rfl (show (0:Nat) ≠ 10 by decide)));(focus (intro w1 hw1 K1 hK1;exact r_move rfl hK1));(try simp only [SS,Nat.reduceAdd])
        (with_reducible apply (w_val (v:=.slice (some ⟨gb,0,none⟩) (escS s).length (escS s).length) rfl (show (1:Nat) ≠ 10 by decide)));(focus (intro w1 hw1 K1 hK1;exact r_move rfl hK1));(try simp only [SS,Nat.reduceAdd])
        (with_reducible apply (w_val (v:=.int .i64 (escS (s.take k)).length) rfl (show (2:Nat) ≠ 10 by decide)));(focus (intro w1 hw1 K1 hK1;exact r_move rfl hK1));(try simp only [SS,Nat.reduceAdd])
        (with_reducible apply (w_val (v:=.slice (some ⟨gb,(escS (s.take k)).length,none⟩) ((escS s).length - (escS (s.take k)).length) ((escS s).length - (escS (s.take k)).length)) rfl (show (3:Nat) ≠ 10 by decide)));(focus (intro w1 hw1 K1 hK1;exact r_sliceFrom (j:=(escS (s.take k)).length) rfl rfl (by omega) (Nat.le_refl _) hK1));(try simp only [SS,Nat.reduceAdd])
        (with_reducible apply (w_val (v:=.pointer (some ⟨b,0,none⟩)) rfl (show (4:Nat) ≠ 10 by decide)));(focus (intro w1 hw1 K1 hK1;exact r_move rfl hK1));(try simp only [SS,Nat.reduceAdd])
        (with_reducible apply (w_val (v:=.int .u8 c.toNat) rfl (show (5:Nat) ≠ 10 by decide)));(focus (intro w1 hw1 K1 hK1;exact r_move rfl hK1));(try simp only [SS,Nat.reduceAdd])
        (with_reducible apply (w_val (v:=.pointer (some ⟨b,0,none⟩)) rfl (show (6:Nat) ≠ 10 by decide)));(focus (intro w1 hw1 K1 hK1;exact r_nilCheck rfl hK1));(try simp only [SS,Nat.reduceAdd])
        (with_reducible apply (w_val (v:=.pointer (some ⟨b,0,none⟩)) rfl (show (7:Nat) ≠ 10 by decide)));(focus (intro w1 hw1 K1 hK1;exact r_fieldAddr rfl hK1));(try simp only [SS,Nat.reduceAdd])
        (with_reducible apply (w_val (v:=.pointer (some ⟨b,c.toNat,none⟩)) rfl (show (8:Nat) ≠ 10 by decide)));(focus (intro w1 hw1 K1 hK1;refine r_indexAddrA Tryz.underlying150 rfl rfl (by omega) (by have:=c.toNat_lt;omega) ?_;rw [show 0+(c.toNat:Int).toNat * 1=c.toNat by omega];exact hK1));(try simp only [SS,Nat.reduceAdd])
        (with_reducible apply (w_val (v:=.slice (some ⟨b1,0,none⟩) 2 c1) rfl (show (9:Nat) ≠ 10 by decide)));(focus (intro w1 hw1 K1 hK1;exact r_load1 rfl (Bel.cell hw1 hneb hv) hK1));(try simp only [SS,Nat.reduceAdd])
        (with_reducible apply (w_do (v:=.int .i64 2) (R:=fun w'=>Blk w' gb 5 ((cur.setIfInBounds (escS (s.take k)).length (.int .u8 92)).setIfInBounds ((escS (s.take k)).length+1) (.int .u8 c.toNat))) (W:=waysB gb 10) (i:=10) (fun _ _ hx h=>h.ext hx) rfl rfl rfl));(focus (intro w1 hw1 K1 hK1;exact r_copy2 (t':=5) (cur:=cur) rfl rfl (by omega) (hr1.ext hw1) rfl rfl (hbk.ext hw1) (by omega) (hK1 _ (((hbk.ext hw1).setCell _ _).setCell _ _) ((Bel.setCell _ _).trans (Bel.setCell _ _)))));(try simp only [SS,Nat.reduceAdd])
        (with_reducible apply (w_val (v:=.int .i64 (((escS (s.take k)).length:Int)+2)) rfl (show (11:Nat) ≠ 10 by decide)));(focus (intro w1 hw1 K1 hK1;exact r_add rfl rfl (by apply IntWalk.i64_in;omega) hK1));(try simp only [SS,Nat.reduceAdd])
        refine w_nil fun w9 hR9 hf9 => ?_
        have hb9:=hf9 (fun w'=>Blk w' gb 5 ((cur.setIfInBounds (escS (s.take k)).length (.int .u8 92)).setIfInBounds ((escS (s.take k)).length+1) (.int .u8 c.toNat))) (by simp)
        have hx9:Ext w w9:=Bel.ext hR9 hxk hgb
        obtain ⟨q1,q2⟩:=Buf.put hsz htk (by omega) 92
        obtain ⟨q3,q4⟩:=Buf.put q1 q2 (by rw [List.length_append];exact hgl') c
        have hbuf9:Buf w9 gb (escS s).length (escS (s.take (k+1))):=by
         rw [hat,show escS (s.take k) ++ [92,c]=escS (s.take k) ++ [92] ++ [c] by simp]
         exact ⟨_,by rw [List.length_append];exact hb9,q3,q4⟩
        unfold tailQ
        simp only [List.drop_succ_cons,List.drop_zero]
        (apply l_assign);exact evE;(try simp only [SS,Nat.reduceAdd])
        apply wpList_nil
        refine NoPanic.normal ?_
        repeat' (first|((with_reducible apply wp_seq_k);intro K hK)|(simp only [Exit.then,Exit.inBlock,↓reduceIte,Nat.reduceEqDiff])|(with_reducible first|apply wp_block|apply wp_skip|apply wp_exit)|((with_reducible apply wp_cond_true);exact rfl)|((with_reducible apply wp_cond_false);exact rfl)|(((with_reducible apply wp_cond_split);exact rfl)<;>intro hb<;>(try simp only [SPLT] at hb)<;>(try (have hbl:=And.left hb;have hbr:=And.right hb))<;>(try (have hbll:=And.left hbl;have hblr:=And.right hbl))<;>(try exact spE))|((with_reducible apply (wp_region_lit (id:=25)));((apply l_move);exact evE;(try simp only [SS,Nat.reduceAdd]));((apply l_add);exact rfl;exact rfl;(focus (first|(apply IntWalk.i64_in;omega)|exact IntWalk.i64_left _));(try simp only [SS,Nat.reduceAdd]));((apply l_assign);exact evE;(try simp only [SS,Nat.reduceAdd]));(apply wpList_nil))|((fail_if_success with_reducible first|apply no_region|apply no_list|apply no_par|apply no_loop);go_step))
        refine ⟨⟨k+1,by omega,rfl,?_,hbuf9,hx9⟩,?_⟩
        ·rw [hat,List.length_append];rfl
        ·simp only [idxOf]
         omega
       ·have eb:escB c = [c]:=by unfold escB;rw [if_neg hsp]
        rw [eb] at hat
        rw [hat,List.length_append] at hgl
        have hgl':(escS (s.take k)).length+1≤(escS s).length:=hgl
        with_reducible apply (wp_region_lit (id:=27))
        (apply l_move);exact evE;(try simp only [SS,Nat.reduceAdd])
        (apply l_move);exact evE;(try simp only [SS,Nat.reduceAdd])
        (apply l_nilCheck);exact rfl;(try simp only [SS,Nat.reduceAdd])
        (apply l_fieldAddr);exact rfl;(try simp only [SS,Nat.reduceAdd])
        refine l_indexAddrA Tryz.underlying150 rfl rfl (by omega) (by have:=c.toNat_lt;omega) ?_
        (try simp only [SS,Nat.reduceAdd])
        (apply l_load1);exact rfl;exact hv;(try simp only [SS,Nat.reduceAdd])
        refine l_slSome Tryz.underlying66 rfl ?_
        (try simp only [SS,Nat.reduceAdd])
        apply wpList_nil
        repeat' (first|(with_reducible first|apply wp_block|apply wp_skip|apply wp_exit)|((with_reducible apply wp_seq_k);intro K hK)|simp only [Exit.then,Exit.inBlock,↓reduceIte,Nat.reduceEqDiff]|((with_reducible apply wp_cond_true);exact rfl)|((with_reducible apply wp_cond_false);exact rfl)|((fail_if_success with_reducible apply no_region);go_step))
        with_reducible apply (wp_region_lit (id:=29))
        (apply l_move);exact evE;(try simp only [SS,Nat.reduceAdd])
        (apply l_move);exact evE;(try simp only [SS,Nat.reduceAdd])
        (apply l_move);exact evE;(try simp only [SS,Nat.reduceAdd])
        (apply l_indexAddr);exact rfl;exact rfl;omega;omega;(try simp only [SS,Nat.reduceAdd])
        refine wpList_plain rfl fun K1 hK1=>r_store (n:=1) (o:=(escS (s.take k)).length) (by kernel_rfl) rfl (us := [.int .u8 c.toNat]) rfl rfl (by simp [Value.oneCell']) hbk (by omega) (hK1 _ _ ?_)
        rw [putA (by omega)]
        have wr8:=Writes.row hbk (cur.setIfInBounds (escS (s.take k)).length (.int .u8 c.toNat)) (by simp)
        change wpList _ _ _ _ _ (wr.setRow gb (cur.setIfInBounds (escS (s.take k)).length (.int .u8 c.toNat)))
        generalize wr.setRow gb (cur.setIfInBounds (escS (s.take k)).length (.int .u8 c.toNat))=w8 at wr8 ⊢
        obtain ⟨q1,q2⟩:=Buf.put hsz htk (by omega) c
        have hbuf8:Buf w8 gb (escS s).length (escS (s.take (k+1))):=by
         rw [hat]
         exact ⟨_,wr8.now,q1,q2⟩
        have hx8:Ext w w8:=Below.trans hxk ⟨wr8.os,wr8.tape,wr8.output,Nat.le_of_eq wr8.size.symm,fun k' hk'=>wr8.other k' (by omega)⟩
        apply wpList_nil
        repeat' (first|((with_reducible apply wp_seq_k);intro K hK)|(simp only [Exit.then,Exit.inBlock,↓reduceIte,Nat.reduceEqDiff])|(with_reducible first|apply wp_block|apply wp_skip|apply wp_exit)|((with_reducible apply wp_cond_true);exact rfl)|((with_reducible apply wp_cond_false);exact rfl)|(((with_reducible apply wp_cond_split);exact rfl)<;>intro hb<;>(try simp only [SPLT] at hb)<;>(try (have hbl:=And.left hb;have hbr:=And.right hb))<;>(try (have hbll:=And.left hbl;have hblr:=And.right hbl))<;>(try exact spE))|((with_reducible apply (wp_region_lit (id:=30)));((apply l_move);exact evE;(try simp only [SS,Nat.reduceAdd]));((apply l_add);exact rfl;exact rfl;(focus (first|(apply IntWalk.i64_in;omega)|exact IntWalk.i64_left _));(try simp only [SS,Nat.reduceAdd]));((apply l_assign);exact evE;(try simp only [SS,Nat.reduceAdd]));(apply wpList_nil))|((with_reducible apply (wp_region_lit (id:=25)));((apply l_move);exact evE;(try simp only [SS,Nat.reduceAdd]));((apply l_add);exact rfl;exact rfl;(focus (first|(apply IntWalk.i64_in;omega)|exact IntWalk.i64_left _));(try simp only [SS,Nat.reduceAdd]));((apply l_assign);exact evE;(try simp only [SS,Nat.reduceAdd]));(apply wpList_nil))|((fail_if_success with_reducible first|apply no_region|apply no_list|apply no_par|apply no_loop);go_step))
        have e1:(escS (s.take (k+1))).length=(escS (s.take k)).length+1:=by rw [hat,List.length_append];rfl
        refine ⟨⟨k+1,by omega,rfl,?_,hbuf8,hx8⟩,?_⟩
        ·rw [e1];rfl
        ·simp only [idxOf]
         omega
      ·have hkl:k=s.length:=by omega
       subst hkl
       rw [List.take_length] at htk
       with_reducible apply (wp_region_lit (id:=31))
       (apply l_move);exact evE;(try simp only [SS,Nat.reduceAdd])
       refine l_bytesStr (s:=escS s) rfl rfl (fun j y hj => ?_) ?_
       ·rw [hbk.cell,Nat.zero_add]
        have hl:(u8s (escS s))[j]?=some y:=hj
        rw [← htk,List.getElem?_take] at hl
        split at hl
        ·simpa using hl
        ·cases hl
       (try simp only [SS,Nat.reduceAdd])
       (apply l_assign);exact evE;(try simp only [SS,Nat.reduceAdd])
       apply wpList_nil
       repeat' (first|(with_reducible first|apply wp_block|apply wp_skip|apply wp_exit)|((with_reducible apply wp_seq_k);intro K hK)|simp only [Exit.then,Exit.inBlock,↓reduceIte,Nat.reduceEqDiff]|((with_reducible apply wp_cond_true);exact rfl)|((with_reducible apply wp_cond_false);exact rfl)|((fail_if_success with_reducible apply no_region);go_step))
       go_ret
       exact ⟨rfl,hxk⟩
end Go.Proofs.YtindehjiaknokaaGreatDoor
