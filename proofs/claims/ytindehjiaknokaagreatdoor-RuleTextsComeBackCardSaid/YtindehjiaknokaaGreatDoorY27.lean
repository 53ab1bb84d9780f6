/- The building of a Replacer's table. -/
import Derived.Test.YtindehjiaknokaaGreatDoorY8
namespace Go.Proofs.YtindehjiaknokaaGreatDoor
set_option linter.unusedSimpArgs false
set_option linter.unusedVariables false
open Go.RowKit
set_option maxRecDepth 100000
set_option maxHeartbeats 8000000
theorem putL {cs:List Value} {i:Nat} {v:Value} (h:i < cs.length):(cs.toArray.toList.take i ++ [v]++cs.toArray.toList.drop (i+1)).toArray=(cs.set i v).toArray:=by
 rw [List.set_eq_take_append_cons_drop,if_pos h]
 simp
theorem Ext.trans' {a b c:World} (h:Ext a b) (k:Below a.heap.size b c):Ext a c:=Below.trans h k
def idxOf:Value→Nat
 |.int _ n=>n.toNat
 |_=>0
instance:TZer Tryz.prog 152 (List.replicate 257 (Value.slice none 0 0)):=⟨by kernel_rfl⟩
def TabAt (B b:Nat) (w:World):Prop:=∃ cs v,Tc B b 2 w cs∧cs[256]?=some v∧Own w B 9 1 v tRep
theorem build_at (g:Nat) (bo o c:Nat) (w:World) (hb:w.cell? ⟨g,4,none⟩=some (.slice (some ⟨bo,o,none⟩) 4 c)) (hr:RowAt w bo o [st [92],st [92,92],st [34],st [92,34]]):
  Calls Tryz.prog 95 #[.pointer (some ⟨g,0,none⟩)] w fun e w'=>∃ b,e=.returned (.iface 153 (.pointer (some ⟨b,0,none⟩)))∧Ext w w'∧TabAt w.heap.size b w':=by
 have hb':w.cell? ⟨g,0+4,none⟩=some (.slice (some ⟨bo,o,none⟩) 4 c):=hb
 go_enter Tryz.func95,Tryz.ntmps95
 repeat' (first|((with_reducible apply wp_seq_k);intro K hK)|(simp only [Exit.then,Exit.inBlock,↓reduceIte,Nat.reduceEqDiff])|(with_reducible first|apply wp_block|apply wp_skip|apply wp_exit)|((with_reducible apply wp_cond_true);exact rfl)|((with_reducible apply wp_cond_false);exact rfl)|(((with_reducible apply wp_cond_split);exact rfl)<;>intro hb<;>(try simp only [SPLT] at hb)<;>(try (have hbl:=And.left hb;have hbr:=And.right hb))<;>(try (have hbll:=And.left hbl;have hblr:=And.right hbl))<;>(try exact spE))|((with_reducible apply (wp_region_lit (id:=0)));((apply l_assign);exact evE;(try simp only [SS,Nat.reduceAdd]));(apply wpList_nil))|((with_reducible apply (wp_region_lit (id:=1)));((apply l_move);exact evE;(try simp only [SS,Nat.reduceAdd]));((apply l_nilCheck);exact rfl;(try simp only [SS,Nat.reduceAdd]));((apply l_fieldAddr);exact rfl;(try simp only [SS,Nat.reduceAdd]));((apply l_load1);exact rfl;(focus (first|assumption|((apply cx);(focus assumption);(focus (repeat (first|exact xr _|assumption|(apply xt;assumption))));done)|((first|(apply cb;assumption)|(apply c0;assumption)|(apply cr;assumption)|(apply cp;assumption));(focus (repeat (first|exact xr _|assumption|(apply xt;assumption))));exact rfl)));(try simp only [SS,Nat.reduceAdd]));((apply l_assign);exact evE;(try simp only [SS,Nat.reduceAdd]));(apply wpList_nil))|((with_reducible apply (wp_region_seq (id:=2)));((apply p_move);exact evE;(try simp only [SS,Nat.reduceAdd]));((apply p_len_slice);exact rfl;(try simp only [SS,Nat.reduceAdd]));((apply p_eql);exact rfl;exact rfl;(try simp only [SS,Nat.reduceAdd]));((apply p_move);exact evE;(try simp only [SS,Nat.reduceAdd]));((with_reducible apply par_ct);exact rfl;exact rfl;(focus (intro hg1 w1 hx K hK;have hq1:=hg1;(try simp only [decide_eq_true_eq,decide_eq_false_iff_not,Int.not_lt,Int.not_le] at hq1);(try simp only [hg1,GS2] at hK ⊢);((with_reducible apply r_move);exact evE;exact hK _ (Ext.refl _))));(try simp only [SS,Nat.reduceAdd]));((with_reducible apply par_ct);exact rfl;exact rfl;(focus (intro hg1 w1 hx K hK;have hq1:=hg1;(try simp only [decide_eq_true_eq,decide_eq_false_iff_not,Int.not_lt,Int.not_le] at hq1);(try simp only [hg1,GS2] at hK ⊢);((with_reducible apply r_indexAddr);exact rfl;exact rfl;(focus (first|assumption|omega));(focus (first|assumption|omega));exact hK _ (Ext.refl _))));(try simp only [SS,Nat.reduceAdd]));((with_reducible apply par_ct);exact rfl;exact rfl;(focus (intro hg1 w1 hx K hK;have hq1:=hg1;(try simp only [decide_eq_true_eq,decide_eq_false_iff_not,Int.not_lt,Int.not_le] at hq1);(try simp only [hg1,GS2] at hK ⊢);((with_reducible apply r_load1);exact rfl;(focus (first|assumption|((apply cx);(focus assumption);(focus (repeat (first|exact xr _|assumption|(apply xt;assumption))));done)|((first|(apply cb;assumption)|(apply c0;assumption)|(apply cr;assumption)|(apply cp;assumption));(focus (repeat (first|exact xr _|assumption|(apply xt;assumption))));exact rfl)));exact hK _ (Ext.refl _))));(try simp only [SS,Nat.reduceAdd]));((with_reducible apply par_ct);exact rfl;exact rfl;(focus (intro hg1 w1 hx K hK;have hq1:=hg1;(try simp only [decide_eq_true_eq,decide_eq_false_iff_not,Int.not_lt,Int.not_le] at hq1);(try simp only [hg1,GS2] at hK ⊢);((with_reducible apply r_len_str);exact rfl;exact hK _ (Ext.refl _))));(try simp only [SS,Nat.reduceAdd]));((with_reducible apply par_ct);exact rfl;exact rfl;(focus (intro hg1 w1 hx K hK;have hq1:=hg1;(try simp only [decide_eq_true_eq,decide_eq_false_iff_not,Int.not_lt,Int.not_le] at hq1);(try simp only [hg1,GS2] at hK ⊢);((with_reducible apply r_gtr);exact rfl;exact rfl;exact hK _ (Ext.refl _))));(try simp only [SS,Nat.reduceAdd]));((apply p_and);exact rfl;exact rfl;(try simp only [SS,Nat.reduceAdd]));((apply par_nil);intro v2 hv2 _))|((with_reducible apply (wp_region_lit (id:=4)));((apply l_assign);exact evE;(try simp only [SS,Nat.reduceAdd]));(apply wpList_nil))|((with_reducible apply (wp_region_lit (id:=5)));((apply l_assign);exact evE;(try simp only [SS,Nat.reduceAdd]));(apply wpList_nil))|((fail_if_success with_reducible first|apply no_region|apply no_list|apply no_par|apply no_loop);go_step))
 any_goals exact (false:Bool)
 go_loopw [4,5] (fun v4 v5 wr=>wr=v2∧((v4=.bool true∧v5=.int .i64 0)∨(v4=.bool false∧v5=.int .i64 2)∨(v4=.bool false∧v5=.int .i64 4))) (fun _ v5 _=>4 - idxOf v5)
 case atStart=>exact ⟨rfl,.inl ⟨rfl,rfl⟩⟩
 case round=>
  have hr2:RowAt v2 bo o [st [92],st [92,92],st [34],st [92,34]]:=hr.ext hv2
  obtain ⟨rfl,⟨rfl,rfl⟩|⟨rfl,rfl⟩|⟨rfl,rfl⟩⟩:=hrel
  ·repeat' (first|((with_reducible apply wp_seq_k);intro K hK)|(simp only [Exit.then,Exit.inBlock,↓reduceIte,Nat.reduceEqDiff])|(with_reducible first|apply wp_block|apply wp_skip|apply wp_exit)|((with_reducible apply wp_cond_true);exact rfl)|((with_reducible apply wp_cond_false);exact rfl)|(((with_reducible apply wp_cond_split);exact rfl)<;>intro hb<;>(try simp only [SPLT] at hb)<;>(try (have hbl:=And.left hb;have hbr:=And.right hb))<;>(try (have hbll:=And.left hbl;have hblr:=And.right hbl))<;>(try exact spE))|((with_reducible apply (wp_region_lit (id:=6)));((apply l_move);exact evE;(try simp only [SS,Nat.reduceAdd]));((apply l_move);exact evE;(try simp only [SS,Nat.reduceAdd]));((apply l_len_slice);exact rfl;(try simp only [SS,Nat.reduceAdd]));((apply l_lss);exact rfl;exact rfl;(try simp only [SS,Nat.reduceAdd]));(apply wpList_nil))|((with_reducible apply (wp_region_lit (id:=8)));((apply l_move);exact evE;(try simp only [SS,Nat.reduceAdd]));((apply l_move);exact evE;(try simp only [SS,Nat.reduceAdd]));((apply l_indexAddr);exact rfl;exact rfl;(focus (first|assumption|omega));(focus (first|assumption|omega));(try simp only [SS,Nat.reduceAdd]));((apply l_load1);exact rfl;(focus (first|assumption|((apply cx);(focus assumption);(focus (repeat (first|exact xr _|assumption|(apply xt;assumption))));done)|((first|(apply cb;assumption)|(apply c0;assumption)|(apply cr;assumption)|(apply cp;assumption));(focus (repeat (first|exact xr _|assumption|(apply xt;assumption))));exact rfl)));(try simp only [SS,Nat.reduceAdd]));((apply l_len_str);exact rfl;(try simp only [SS,Nat.reduceAdd]));((apply l_neq);exact rfl;exact rfl;(try simp only [SS,Nat.reduceAdd]));(apply wpList_nil))|((with_reducible apply (wp_region_lit (id:=10)));((apply l_move);exact evE;(try simp only [SS,Nat.reduceAdd]));((apply l_move);exact evE;(try simp only [SS,Nat.reduceAdd]));((apply l_add);exact rfl;exact rfl;(focus (first|(apply IntWalk.i64_in;omega)|exact IntWalk.i64_left _));(try simp only [SS,Nat.reduceAdd]));((apply l_indexAddr);exact rfl;exact rfl;(focus (first|assumption|omega));(focus (first|assumption|omega));(try simp only [SS,Nat.reduceAdd]));((apply l_load1);exact rfl;(focus (first|assumption|((apply cx);(focus assumption);(focus (repeat (first|exact xr _|assumption|(apply xt;assumption))));done)|((first|(apply cb;assumption)|(apply c0;assumption)|(apply cr;assumption)|(apply cp;assumption));(focus (repeat (first|exact xr _|assumption|(apply xt;assumption))));exact rfl)));(try simp only [SS,Nat.reduceAdd]));((apply l_len_str);exact rfl;(try simp only [SS,Nat.reduceAdd]));((apply l_neq);exact rfl;exact rfl;(try simp only [SS,Nat.reduceAdd]));(apply wpList_nil))|((with_reducible apply (wp_region_lit (id:=11)));((apply l_assign);exact evE;(try simp only [SS,Nat.reduceAdd]));(apply wpList_nil))|((with_reducible apply (wp_region_lit (id:=7)));((apply l_move);exact evE;(try simp only [SS,Nat.reduceAdd]));((apply l_add);exact rfl;exact rfl;(focus (first|(apply IntWalk.i64_in;omega)|exact IntWalk.i64_left _));(try simp only [SS,Nat.reduceAdd]));((apply l_assign);exact evE;(try simp only [SS,Nat.reduceAdd]));(apply wpList_nil))|((fail_if_success with_reducible first|apply no_region|apply no_list|apply no_par|apply no_loop);go_step))
   exact ⟨⟨trivial,.inr (.inl ⟨trivial,rfl⟩)⟩,by decide⟩
  ·repeat' (first|((with_reducible apply wp_seq_k);intro K hK)|(simp only [Exit.then,Exit.inBlock,↓reduceIte,Nat.reduceEqDiff])|(with_reducible first|apply wp_block|apply wp_skip|apply wp_exit)|((with_reducible apply wp_cond_true);exact rfl)|((with_reducible apply wp_cond_false);exact rfl)|(((with_reducible apply wp_cond_split);exact rfl)<;>intro hb<;>(try simp only [SPLT] at hb)<;>(try (have hbl:=And.left hb;have hbr:=And.right hb))<;>(try (have hbll:=And.left hbl;have hblr:=And.right hbl))<;>(try exact spE))|((with_reducible apply (wp_region_lit (id:=6)));((apply l_move);exact evE;(try simp only [SS,Nat.reduceAdd]));((apply l_move);exact evE;(try simp only [SS,Nat.reduceAdd]));((apply l_len_slice);exact rfl;(try simp only [SS,Nat.reduceAdd]));((apply l_lss);exact rfl;exact rfl;(try simp only [SS,Nat.reduceAdd]));(apply wpList_nil))|((with_reducible apply (wp_region_lit (id:=8)));((apply l_move);exact evE;(try simp only [SS,Nat.reduceAdd]));((apply l_move);exact evE;(try simp only [SS,Nat.reduceAdd]));((apply l_indexAddr);exact rfl;exact rfl;(focus (first|assumption|omega));(focus (first|assumption|omega));(try simp only [SS,Nat.reduceAdd]));((apply l_load1);exact rfl;(focus (first|assumption|((apply cx);(focus assumption);(focus (repeat (first|exact xr _|assumption|(apply xt;assumption))));done)|((first|(apply cb;assumption)|(apply c0;assumption)|(apply cr;assumption)|(apply cp;assumption));(focus (repeat (first|exact xr _|assumption|(apply xt;assumption))));exact rfl)));(try simp only [SS,Nat.reduceAdd]));((apply l_len_str);exact rfl;(try simp only [SS,Nat.reduceAdd]));((apply l_neq);exact rfl;exact rfl;(try simp only [SS,Nat.reduceAdd]));(apply wpList_nil))|((with_reducible apply (wp_region_lit (id:=10)));((apply l_move);exact evE;(try simp only [SS,Nat.reduceAdd]));((apply l_move);exact evE;(try simp only [SS,Nat.reduceAdd]));((apply l_add);exact rfl;exact rfl;(focus (first|(apply IntWalk.i64_in;omega)|exact IntWalk.i64_left _));(try simp only [SS,Nat.reduceAdd]));((apply l_indexAddr);exact rfl;exact rfl;(focus (first|assumption|omega));(focus (first|assumption|omega));(try simp only [SS,Nat.reduceAdd]));((apply l_load1);exact rfl;(focus (first|assumption|((apply cx);(focus assumption);(focus (repeat (first|exact xr _|assumption|(apply xt;assumption))));done)|((first|(apply cb;assumption)|(apply c0;assumption)|(apply cr;assumption)|(apply cp;assumption));(focus (repeat (first|exact xr _|assumption|(apply xt;assumption))));exact rfl)));(try simp only [SS,Nat.reduceAdd]));((apply l_len_str);exact rfl;(try simp only [SS,Nat.reduceAdd]));((apply l_neq);exact rfl;exact rfl;(try simp only [SS,Nat.reduceAdd]));(apply wpList_nil))|((with_reducible apply (wp_region_lit (id:=11)));((apply l_assign);exact evE;(try simp only [SS,Nat.reduceAdd]));(apply wpList_nil))|((with_reducible apply (wp_region_lit (id:=7)));((apply l_move);exact evE;(try simp only [SS,Nat.reduceAdd]));((apply l_add);exact rfl;exact rfl;(focus (first|(apply IntWalk.i64_in;omega)|exact IntWalk.i64_left _));(try simp only [SS,Nat.reduceAdd]));((apply l_assign);exact evE;(try simp only [SS,Nat.reduceAdd]));(apply wpList_nil))|((fail_if_success with_reducible first|apply no_region|apply no_list|apply no_par|apply no_loop);go_step))
   exact ⟨⟨trivial,.inr (.inr ⟨trivial,rfl⟩)⟩,by decide⟩
  ·repeat' (first|((with_reducible apply wp_seq_k);intro K hK)|(simp only [Exit.then,Exit.inBlock,↓reduceIte,Nat.reduceEqDiff])|(with_reducible first|apply wp_block|apply wp_skip|apply wp_exit)|((with_reducible apply wp_cond_true);exact rfl)|((with_reducible apply wp_cond_false);exact rfl)|(((with_reducible apply wp_cond_split);exact rfl)<;>intro hb<;>(try simp only [SPLT] at hb)<;>(try (have hbl:=And.left hb;have hbr:=And.right hb))<;>(try (have hbll:=And.left hbl;have hblr:=And.right hbl))<;>(try exact spE))|((with_reducible apply (wp_region_lit (id:=6)));((apply l_move);exact evE;(try simp only [SS,Nat.reduceAdd]));((apply l_move);exact evE;(try simp only [SS,Nat.reduceAdd]));((apply l_len_slice);exact rfl;(try simp only [SS,Nat.reduceAdd]));((apply l_lss);exact rfl;exact rfl;(try simp only [SS,Nat.reduceAdd]));(apply wpList_nil))|((with_reducible apply (wp_region_lit (id:=12)));((apply l_move);exact evE;(try simp only [SS,Nat.reduceAdd]));(apply wpList_nil))|((fail_if_success with_reducible first|apply no_region|apply no_list|apply no_par|apply no_loop);go_step))
   with_reducible apply (wp_region_lit (id:=26))
   (apply l_move);exact evE;(try simp only [SS,Nat.reduceAdd])
   (apply l_len_slice);exact rfl;(try simp only [SS,Nat.reduceAdd])
   (apply l_quo_nn);exact rfl;exact rfl;omega;omega;omega;(try simp only [SS,Nat.reduceAdd])
   refine l_makeSlice (L:=0) (N:=2) rfl rfl (by omega) (by omega) (by decide) fun gt w3 ct hbt hst hx3 hgt => ?_
   (try simp only [SS,Nat.reduceAdd])
   refine l_build (parts := [(1,.tmp 94)]) (vals := [(1,.slice (some ⟨gt,0,none⟩) 0 2)]) (cs:=List.replicate 256 nilS ++ [.slice (some ⟨gt,0,none⟩) 0 2]) rfl (by kernel_rfl) ?_
   (try simp only [SS,Nat.reduceAdd])
   refine l_allocN (cs:=List.replicate 256 nilS ++ [.slice (some ⟨gt,0,none⟩) 0 2]) (fun p=>rfl) (fun p=>rfl) (by kernel_rfl) fun b w4 hb4 hx4 hg4 => ?_
   (try simp only [SS,Nat.reduceAdd])
   apply wpList_nil
   have hBt:w.heap.size≤gt:=by have:=hv2.sizeOf;omega
   have hst0:∃ cs v,Tc w.heap.size b 0 w4 cs∧cs[256]?=some v∧Own w4 w.heap.size 9 1 v (tRep.take 0)∧Ext w w4:=by
    have ho3:Own w3 w.heap.size 9 1 (.slice (some ⟨gt,0,none⟩) 0 2) []:=⟨⟨by simp,.inr ⟨gt,2,ct,rfl,hBt,hbt,by simp,by unfold maxLen;omega,hst,by simp⟩⟩,by simp⟩
    have hlow:w.heap.size≤b:=by have h1:=hx3.sizeOf;have h2:=hv2.sizeOf;rw [hg4];exact Nat.le_trans h2 h1
    refine ⟨_,_,⟨hb4,by simp,hlow,fun j hj=>absurd hj (by omega),fun k hk _ => ?_⟩,?_,ho3.ext hx4,hv2.trans (hx3.trans hx4)⟩
    ·rw [List.getElem?_append_left (by simpa using hk),List.getElem?_replicate,if_pos hk]
    ·rw [List.getElem?_append_right (by simp)]
     rfl
   clear hbt hst hb4
   repeat' (first|((with_reducible apply wp_seq_k);intro K hK)|(simp only [Exit.then,Exit.inBlock,↓reduceIte,Nat.reduceEqDiff])|(with_reducible first|apply wp_block|apply wp_skip|apply wp_exit)|((with_reducible apply wp_cond_true);exact rfl)|((with_reducible apply wp_cond_false);exact rfl)|(((with_reducible apply wp_cond_split);exact rfl)<;>intro hb<;>(try simp only [SPLT] at hb)<;>(try (have hbl:=And.left hb;have hbr:=And.right hb))<;>(try (have hbll:=And.left hbl;have hblr:=And.right hbl))<;>(try exact spE))|((with_reducible apply (wp_region_lit (id:=27)));((apply l_move);exact evE;(try simp only [SS,Nat.reduceAdd]));((apply l_len_slice);exact rfl;(try simp only [SS,Nat.reduceAdd]));((apply l_sub);exact rfl;exact rfl;(focus (first|(apply IntWalk.i64_in;omega)|exact IntWalk.i64_left _));(try simp only [SS,Nat.reduceAdd]));((apply l_assign);exact evE;(try simp only [SS,Nat.reduceAdd]));(apply wpList_nil))|((fail_if_success with_reducible first|apply no_region|apply no_list|apply no_par|apply no_loop);go_step))
   go_loopw [12] (fun v12 wr=>∃ m cs v,((m=0∧v12=.int .i64 2)∨(m=1∧v12=.int .i64 0)∨(m=2∧v12=.int .i64 (-2)))∧Tc w.heap.size b m wr cs∧cs[256]?=some v∧Own wr w.heap.size 9 1 v (tRep.take m)∧Ext w wr) (fun v12 _=>match v12 with | .int _ n=>(n+2).toNat|_=>0)
   case atStart=>
    obtain ⟨cs,v,h1,h2,h3,h4⟩:=hst0
    exact ⟨0,cs,v,.inl ⟨rfl,rfl⟩,h1,h2,h3,h4⟩
   case round=>
    obtain ⟨m,cs,v,⟨rfl,rfl⟩|⟨rfl,rfl⟩|⟨rfl,rfl⟩,hT,hv,ho,hx⟩:=hrel
    ·have hr3:RowAt wr bo o [st [92],st [92,92],st [34],st [92,34]]:=hr.ext hx
     repeat' (first|((with_reducible apply wp_seq_k);intro K hK)|(simp only [Exit.then,Exit.inBlock,↓reduceIte,Nat.reduceEqDiff])|(with_reducible first|apply wp_block|apply wp_skip|apply wp_exit)|((with_reducible apply wp_cond_true);exact rfl)|((with_reducible apply wp_cond_false);exact rfl)|(((with_reducible apply wp_cond_split);exact rfl)<;>intro hb<;>(try simp only [SPLT] at hb)<;>(try (have hbl:=And.left hb;have hbr:=And.right hb))<;>(try (have hbll:=And.left hbl;have hblr:=And.right hbl))<;>(try exact spE))|((with_reducible apply (wp_region_lit (id:=28)));((apply l_move);exact evE;(try simp only [SS,Nat.reduceAdd]));((apply l_geq);exact rfl;exact rfl;(try simp only [SS,Nat.reduceAdd]));(apply wpList_nil))|((fail_if_success with_reducible first|apply no_region|apply no_list|apply no_par|apply no_loop);go_step))
     with_reducible apply (wp_region_lit (id:=30))
     (apply l_move);exact evE;(try simp only [SS,Nat.reduceAdd])
     (apply l_move);exact evE;(try simp only [SS,Nat.reduceAdd])
     (apply l_indexAddr);exact rfl;exact rfl;omega;omega;(try simp only [SS,Nat.reduceAdd])
     (apply l_load1);exact rfl;exact hr3 2 _ rfl;(try simp only [SS,Nat.reduceAdd])
     (apply l_index_str);exact rfl;exact rfl;decide;decide;(try simp only [SS,Nat.reduceAdd])
     (apply l_assign);exact evE;(try simp only [SS,Nat.reduceAdd])
     apply wpList_nil
     repeat' (first|(with_reducible first|apply wp_block|apply wp_skip|apply wp_exit)|((with_reducible apply wp_seq_k);intro K hK)|simp only [Exit.then,Exit.inBlock,↓reduceIte,Nat.reduceEqDiff]|((with_reducible apply wp_cond_true);exact rfl)|((with_reducible apply wp_cond_false);exact rfl)|((fail_if_success with_reducible apply no_region);go_step))
     with_reducible apply (wp_region_lit (id:=31))
     (apply l_move);exact evE;(try simp only [SS,Nat.reduceAdd])
     (apply l_move);exact evE;(try simp only [SS,Nat.reduceAdd])
     (with_reducible apply (l_add (r:=3)));exact rfl;exact rfl;decide;(try simp only [SS,Nat.reduceAdd])
     (apply l_indexAddr);exact rfl;exact rfl;omega;omega;(try simp only [SS,Nat.reduceAdd])
     (apply l_load1);exact rfl;exact hr3 3 _ rfl;(try simp only [SS,Nat.reduceAdd])
     (apply l_assign);exact evE;(try simp only [SS,Nat.reduceAdd])
     apply wpList_nil
     repeat' (first|(with_reducible first|apply wp_block|apply wp_skip|apply wp_exit)|((with_reducible apply wp_seq_k);intro K hK)|simp only [Exit.then,Exit.inBlock,↓reduceIte,Nat.reduceEqDiff]|((with_reducible apply wp_cond_true);exact rfl)|((with_reducible apply wp_cond_false);exact rfl)|((fail_if_success with_reducible apply no_region);go_step))
     with_reducible apply (wp_region_lit (id:=32))
     (apply l_move);exact evE;(try simp only [SS,Nat.reduceAdd])
     (apply l_fieldAddr);exact rfl;(try simp only [SS,Nat.reduceAdd])
     refine l_indexAddrA Tryz.underlying150 rfl rfl (by decide) (by decide) ?_
     (try simp only [SS,Nat.reduceAdd])
     (apply l_load1);exact rfl;(focus (exact (hT.blk.cell 34).trans (by rw [List.getElem?_toArray];exact hT.rest 34 (by decide) (fun j hj=>absurd hj (by omega)))));(try simp only [SS,Nat.reduceAdd])
     refine l_slNil Tryz.underlying66 rfl ?_
     (try simp only [SS,Nat.reduceAdd])
     apply wpList_nil
     repeat' (first|(with_reducible first|apply wp_block|apply wp_skip|apply wp_exit)|((with_reducible apply wp_seq_k);intro K hK)|simp only [Exit.then,Exit.inBlock,↓reduceIte,Nat.reduceEqDiff]|((with_reducible apply wp_cond_true);exact rfl)|((with_reducible apply wp_cond_false);exact rfl)|((fail_if_success with_reducible apply no_region);go_step))
     with_reducible apply (wp_region_lit (id:=33))
     (apply l_fieldAddr);exact rfl;(try simp only [SS,Nat.reduceAdd])
     (apply l_load1);exact rfl;(focus (exact (hT.blk.cell 256).trans (by rw [List.getElem?_toArray];exact hv)));(try simp only [SS,Nat.reduceAdd])
     (apply l_move);exact evE;(try simp only [SS,Nat.reduceAdd])
     refine l_buildSlice (xs := [.tmp 120]) (vals := [.int .u8 34]) (rows := [[.int .u8 34]]) rfl rfl rfl rfl rfl rfl fun g1 w5 hb5 hx5 hg5 => ?_
     (try simp only [SS,Nat.reduceAdd])
     refine l_bytesStr (s := [34]) rfl rfl (fun j y hj => ?_) ?_
     ·rw [hb5.cell,Nat.zero_add,List.getElem?_toArray]
      exact hj
     (try simp only [SS,Nat.reduceAdd])
     refine l_buildSlice (xs := [.tmp 122]) (vals := [st [34]]) (rows := [[st [34]]]) rfl rfl rfl rfl rfl rfl fun g2 w6 hb6 hx6 hg6 => ?_
     (try simp only [SS,Nat.reduceAdd])
     refine l_append1G (B:=w.heap.size) (v:=v) (u:=st [34]) rfl (ho.ext (hx5.trans hx6)) rfl (fun j y hj => ?_) rfl ?_ (by decide) (by decide) fun v' w7 ho7 hg7 => ?_
     ·rw [hb6.cell,Nat.zero_add,List.getElem?_toArray]
      exact hj
     ·have:=hx.sizeOf;have:=hx5.sizeOf;have:=hx6.sizeOf;omega
     (try simp only [SS,Nat.reduceAdd])
     (apply l_fieldAddr);exact rfl;(try simp only [SS,Nat.reduceAdd])
     have hx6':=hx5.trans hx6
     have ho6:=ho.ext hx6'
     have hT7:Tc w.heap.size b 0 w7 cs:=(hT.ext hx6').grown hg7 ho6.typed
     have hs7:=ho7.slr
     obtain ⟨A7,c7,rfl,-⟩:=hs7
     refine wpList_plain rfl fun K1 hK1=>r_store (n:=1) (o:=256) (by kernel_rfl) rfl (us := [.slice A7 _ c7]) rfl rfl (by simp [Value.oneCell']) hT7.blk (by rw [List.size_toArray,hT7.len];decide) (hK1 _ _ ?_)
     have wr8:=Writes.row hT7.blk (cs.set 256 (.slice A7 (tRep.take 0 ++ [[st [34]]]).length c7)).toArray (by simp)
     rw [putL (by rw [hT7.len];decide)]
     change wpList _ _ _ _ _ (w7.setRow b (cs.set 256 (.slice A7 (tRep.take 0 ++ [[st [34]]]).length c7)).toArray)
     generalize w7.setRow b (cs.set 256 (.slice A7 (tRep.take 0 ++ [[st [34]]]).length c7)).toArray=w8 at wr8 ⊢
     have hT8:=hT7.list wr8
     have ho8:=ho7.keep wr8 (by decide)
     have hB6:w.heap.size≤w6.heap.size:=by have:=hx.sizeOf;have:=hx6'.sizeOf;omega
     have hx8:Ext w w8:=by
      have h7:Below w.heap.size w w7:=(hx.trans hx6').grown hg7 hB6 fun k hk=>(ho6.own.lt k hk).1
      exact h7.trans ⟨wr8.os,wr8.tape,wr8.output,Nat.le_of_eq wr8.size.symm,fun k hk=>wr8.other k (by have:=hT.low;omega)⟩
     have hv8:(cs.set 256 (.slice A7 (tRep.take 0 ++ [[st [34]]]).length c7))[256]?=some (.slice A7 (tRep.take 0 ++ [[st [34]]]).length c7):=List.getElem?_set_self (by rw [hT7.len];decide)
     generalize cs.set 256 (.slice A7 (tRep.take 0 ++ [[st [34]]]).length c7)=cs8 at hT8 hv8
     clear hT hv ho hx hb5 hx5 hb6 hx6 ho7 hg7 hT7 wr8 ho6 hx6' hr3
     apply wpList_nil
     repeat' (first|(with_reducible first|apply wp_block|apply wp_skip|apply wp_exit)|((with_reducible apply wp_seq_k);intro K hK)|simp only [Exit.then,Exit.inBlock,↓reduceIte,Nat.reduceEqDiff]|((with_reducible apply wp_cond_true);exact rfl)|((with_reducible apply wp_cond_false);exact rfl)|((fail_if_success with_reducible apply no_region);go_step))
     with_reducible apply (wp_region_lit (id:=34))
     (apply l_move);exact evE;(try simp only [SS,Nat.reduceAdd])
     (apply l_move);exact evE;(try simp only [SS,Nat.reduceAdd])
     refine l_strBytes rfl (by decide) fun cap w9 hx9 hty9 hr9 => ?_
     (try simp only [SS,Nat.reduceAdd])
     (apply l_fieldAddr);exact rfl;(try simp only [SS,Nat.reduceAdd])
     refine l_indexAddrA Tryz.underlying150 rfl rfl (by decide) (by decide) ?_
     (try simp only [SS,Nat.reduceAdd])
     have hT9:=hT8.ext hx9
     refine wpList_plain rfl fun K1 hK1=>r_store (n:=1) (o:=34) (by kernel_rfl) rfl (us := [.slice (some ⟨w8.heap.size,0,none⟩) 2 cap]) rfl rfl (by simp [Value.oneCell']) hT9.blk (by rw [List.size_toArray,hT9.len];decide) (hK1 _ _ ?_)
     have wr10:=Writes.row hT9.blk (cs8.set 34 (.slice (some ⟨w8.heap.size,0,none⟩) 2 cap)).toArray (by simp)
     rw [putL (by rw [hT9.len];decide)]
     change wpList _ _ _ _ _ (w9.setRow b (cs8.set 34 (.slice (some ⟨w8.heap.size,0,none⟩) 2 cap)).toArray)
     generalize w9.setRow b (cs8.set 34 (.slice (some ⟨w8.heap.size,0,none⟩) 2 cap)).toArray=w10 at wr10 ⊢
     have hT10:Tc w.heap.size b 1 w10 (cs8.set 34 (.slice (some ⟨w8.heap.size,0,none⟩) 2 cap)):=hT9.next hx8.sizeOf hty9 hr9 (fun j hj=>absurd hj (by omega)) wr10
     have ho10:=(ho8.ext hx9).keep wr10 (by decide)
     have hx10:Ext w w10:=(hx8.trans hx9).trans' ⟨wr10.os,wr10.tape,wr10.output,Nat.le_of_eq wr10.size.symm,fun k hk=>wr10.other k (by have:=hT9.low;omega)⟩
     have hv10:(cs8.set 34 (.slice (some ⟨w8.heap.size,0,none⟩) 2 cap))[256]?=some (.slice A7 (tRep.take 0 ++ [[st [34]]]).length c7):=by rw [List.getElem?_set_ne (by decide)];exact hv8
     clear hT8 hT9 ho8 hx9 hr9 hty9 wr10 hx8 hv8
     apply wpList_nil
     repeat' (first|((with_reducible apply wp_seq_k);intro K hK)|(simp only [Exit.then,Exit.inBlock,↓reduceIte,Nat.reduceEqDiff])|(with_reducible first|apply wp_block|apply wp_skip|apply wp_exit)|((with_reducible apply wp_cond_true);exact rfl)|((with_reducible apply wp_cond_false);exact rfl)|(((with_reducible apply wp_cond_split);exact rfl)<;>intro hb<;>(try simp only [SPLT] at hb)<;>(try (have hbl:=And.left hb;have hbr:=And.right hb))<;>(try (have hbll:=And.left hbl;have hblr:=And.right hbl))<;>(try exact spE))|((with_reducible apply (wp_region_lit (id:=29)));((apply l_move);exact evE;(try simp only [SS,Nat.reduceAdd]));((apply l_sub);exact rfl;exact rfl;(focus (first|(apply IntWalk.i64_in;omega)|exact IntWalk.i64_left _));(try simp only [SS,Nat.reduceAdd]));((apply l_assign);exact evE;(try simp only [SS,Nat.reduceAdd]));(apply wpList_nil))|((fail_if_success with_reducible first|apply no_region|apply no_list|apply no_par|apply no_loop);go_step))
     exact ⟨⟨1,_,_,.inr (.inl ⟨rfl,rfl⟩),hT10,hv10,ho10,hx10⟩,by decide⟩
    ·have hr3:RowAt wr bo o [st [92],st [92,92],st [34],st [92,34]]:=hr.ext hx
     repeat' (first|((with_reducible apply wp_seq_k);intro K hK)|(simp only [Exit.then,Exit.inBlock,↓reduceIte,Nat.reduceEqDiff])|(with_reducible first|apply wp_block|apply wp_skip|apply wp_exit)|((with_reducible apply wp_cond_true);exact rfl)|((with_reducible apply wp_cond_false);exact rfl)|(((with_reducible apply wp_cond_split);exact rfl)<;>intro hb<;>(try simp only [SPLT] at hb)<;>(try (have hbl:=And.left hb;have hbr:=And.right hb))<;>(try (have hbll:=And.left hbl;have hblr:=And.right hbl))<;>(try exact spE))|((with_reducible apply (wp_region_lit (id:=28)));((apply l_move);exact evE;(try simp only [SS,Nat.reduceAdd]));((apply l_geq);exact rfl;exact rfl;(try simp only [SS,Nat.reduceAdd]));(apply wpList_nil))|((fail_if_success with_reducible first|apply no_region|apply no_list|apply no_par|apply no_loop);go_step))
     with_reducible apply (wp_region_lit (id:=30))
     (apply l_move);exact evE;(try simp only [SS,Nat.reduceAdd])
     (apply l_move);exact evE;(try simp only [SS,Nat.reduceAdd])
     (apply l_indexAddr);exact rfl;exact rfl;omega;omega;(try simp only [SS,Nat.reduceAdd])
     (apply l_load1);exact rfl;exact hr3 0 _ rfl;(try simp only [SS,Nat.reduceAdd])
     (apply l_index_str);exact rfl;exact rfl;decide;decide;(try simp only [SS,Nat.reduceAdd])
     (apply l_assign);exact evE;(try simp only [SS,Nat.reduceAdd])
     apply wpList_nil
     repeat' (first|(with_reducible first|apply wp_block|apply wp_skip|apply wp_exit)|((with_reducible apply wp_seq_k);intro K hK)|simp only [Exit.then,Exit.inBlock,↓reduceIte,Nat.reduceEqDiff]|((with_reducible apply wp_cond_true);exact rfl)|((with_reducible apply wp_cond_false);exact rfl)|((fail_if_success with_reducible apply no_region);go_step))
     with_reducible apply (wp_region_lit (id:=31))
     (apply l_move);exact evE;(try simp only [SS,Nat.reduceAdd])
     (apply l_move);exact evE;(try simp only [SS,Nat.reduceAdd])
     (with_reducible apply (l_add (r:=1)));exact rfl;exact rfl;decide;(try simp only [SS,Nat.reduceAdd])
     (apply l_indexAddr);exact rfl;exact rfl;omega;omega;(try simp only [SS,Nat.reduceAdd])
     (apply l_load1);exact rfl;exact hr3 1 _ rfl;(try simp only [SS,Nat.reduceAdd])
     (apply l_assign);exact evE;(try simp only [SS,Nat.reduceAdd])
     apply wpList_nil
     repeat' (first|(with_reducible first|apply wp_block|apply wp_skip|apply wp_exit)|((with_reducible apply wp_seq_k);intro K hK)|simp only [Exit.then,Exit.inBlock,↓reduceIte,Nat.reduceEqDiff]|((with_reducible apply wp_cond_true);exact rfl)|((with_reducible apply wp_cond_false);exact rfl)|((fail_if_success with_reducible apply no_region);go_step))
     with_reducible apply (wp_region_lit (id:=32))
     (apply l_move);exact evE;(try simp only [SS,Nat.reduceAdd])
     (apply l_fieldAddr);exact rfl;(try simp only [SS,Nat.reduceAdd])
     refine l_indexAddrA Tryz.underlying150 rfl rfl (by decide) (by decide) ?_
     (try simp only [SS,Nat.reduceAdd])
     (apply l_load1);exact rfl;(focus (exact (hT.blk.cell 92).trans (by rw [List.getElem?_toArray];exact hT.rest 92 (by decide) (fun j hj=>(by obtain rfl:j=0:=(by omega);decide)))));(try simp only [SS,Nat.reduceAdd])
     refine l_slNil Tryz.underlying66 rfl ?_
     (try simp only [SS,Nat.reduceAdd])
     apply wpList_nil
     repeat' (first|(with_reducible first|apply wp_block|apply wp_skip|apply wp_exit)|((with_reducible apply wp_seq_k);intro K hK)|simp only [Exit.then,Exit.inBlock,↓reduceIte,Nat.reduceEqDiff]|((with_reducible apply wp_cond_true);exact rfl)|((with_reducible apply wp_cond_false);exact rfl)|((fail_if_success with_reducible apply no_region);go_step))
     with_reducible apply (wp_region_lit (id:=33))
     (apply l_fieldAddr);exact rfl;(try simp only [SS,Nat.reduceAdd])
     (apply l_load1);exact rfl;(focus (exact (hT.blk.cell 256).trans (by rw [List.getElem?_toArray];exact hv)));(try simp only [SS,Nat.reduceAdd])
     (apply l_move);exact evE;(try simp only [SS,Nat.reduceAdd])
     refine l_buildSlice (xs := [.tmp 120]) (vals := [.int .u8 92]) (rows := [[.int .u8 92]]) rfl rfl rfl rfl rfl rfl fun g1 w5 hb5 hx5 hg5 => ?_
     (try simp only [SS,Nat.reduceAdd])
     refine l_bytesStr (s := [92]) rfl rfl (fun j y hj => ?_) ?_
     ·rw [hb5.cell,Nat.zero_add,List.getElem?_toArray]
      exact hj
     (try simp only [SS,Nat.reduceAdd])
     refine l_buildSlice (xs := [.tmp 122]) (vals := [st [92]]) (rows := [[st [92]]]) rfl rfl rfl rfl rfl rfl fun g2 w6 hb6 hx6 hg6 => ?_
     (try simp only [SS,Nat.reduceAdd])
     refine l_append1G (B:=w.heap.size) (v:=v) (u:=st [92]) rfl (ho.ext (hx5.trans hx6)) rfl (fun j y hj => ?_) rfl ?_ (by decide) (by decide) fun v' w7 ho7 hg7 => ?_
     ·rw [hb6.cell,Nat.zero_add,List.getElem?_toArray]
      exact hj
     ·have:=hx.sizeOf;have:=hx5.sizeOf;have:=hx6.sizeOf;omega
     (try simp only [SS,Nat.reduceAdd])
     (apply l_fieldAddr);exact rfl;(try simp only [SS,Nat.reduceAdd])
     have hx6':=hx5.trans hx6
     have ho6:=ho.ext hx6'
     have hT7:Tc w.heap.size b 1 w7 cs:=(hT.ext hx6').grown hg7 ho6.typed
     have hs7:=ho7.slr
     obtain ⟨A7,c7,rfl,-⟩:=hs7
     refine wpList_plain rfl fun K1 hK1=>r_store (n:=1) (o:=256) (by kernel_rfl) rfl (us := [.slice A7 _ c7]) rfl rfl (by simp [Value.oneCell']) hT7.blk (by rw [List.size_toArray,hT7.len];decide) (hK1 _ _ ?_)
     have wr8:=Writes.row hT7.blk (cs.set 256 (.slice A7 (tRep.take 1 ++ [[st [92]]]).length c7)).toArray (by simp)
     rw [putL (by rw [hT7.len];decide)]
     change wpList _ _ _ _ _ (w7.setRow b (cs.set 256 (.slice A7 (tRep.take 1 ++ [[st [92]]]).length c7)).toArray)
     generalize w7.setRow b (cs.set 256 (.slice A7 (tRep.take 1 ++ [[st [92]]]).length c7)).toArray=w8 at wr8 ⊢
     have hT8:=hT7.list wr8
     have ho8:=ho7.keep wr8 (by decide)
     have hB6:w.heap.size≤w6.heap.size:=by have:=hx.sizeOf;have:=hx6'.sizeOf;omega
     have hx8:Ext w w8:=by
      have h7:Below w.heap.size w w7:=(hx.trans hx6').grown hg7 hB6 fun k hk=>(ho6.own.lt k hk).1
      exact h7.trans ⟨wr8.os,wr8.tape,wr8.output,Nat.le_of_eq wr8.size.symm,fun k hk=>wr8.other k (by have:=hT.low;omega)⟩
     have hv8:(cs.set 256 (.slice A7 (tRep.take 1 ++ [[st [92]]]).length c7))[256]?=some (.slice A7 (tRep.take 1 ++ [[st [92]]]).length c7):=List.getElem?_set_self (by rw [hT7.len];decide)
     generalize cs.set 256 (.slice A7 (tRep.take 1 ++ [[st [92]]]).length c7)=cs8 at hT8 hv8
     clear hT hv ho hx hb5 hx5 hb6 hx6 ho7 hg7 hT7 wr8 ho6 hx6' hr3
     apply wpList_nil
     repeat' (first|(with_reducible first|apply wp_block|apply wp_skip|apply wp_exit)|((with_reducible apply wp_seq_k);intro K hK)|simp only [Exit.then,Exit.inBlock,↓reduceIte,Nat.reduceEqDiff]|((with_reducible apply wp_cond_true);exact rfl)|((with_reducible apply wp_cond_false);exact rfl)|((fail_if_success with_reducible apply no_region);go_step))
     with_reducible apply (wp_region_lit (id:=34))
     (apply l_move);exact evE;(try simp only [SS,Nat.reduceAdd])
     (apply l_move);exact evE;(try simp only [SS,Nat.reduceAdd])
     refine l_strBytes rfl (by decide) fun cap w9 hx9 hty9 hr9 => ?_
     (try simp only [SS,Nat.reduceAdd])
     (apply l_fieldAddr);exact rfl;(try simp only [SS,Nat.reduceAdd])
     refine l_indexAddrA Tryz.underlying150 rfl rfl (by decide) (by decide) ?_
     (try simp only [SS,Nat.reduceAdd])
     have hT9:=hT8.ext hx9
     refine wpList_plain rfl fun K1 hK1=>r_store (n:=1) (o:=92) (by kernel_rfl) rfl (us := [.slice (some ⟨w8.heap.size,0,none⟩) 2 cap]) rfl rfl (by simp [Value.oneCell']) hT9.blk (by rw [List.size_toArray,hT9.len];decide) (hK1 _ _ ?_)
     have wr10:=Writes.row hT9.blk (cs8.set 92 (.slice (some ⟨w8.heap.size,0,none⟩) 2 cap)).toArray (by simp)
     rw [putL (by rw [hT9.len];decide)]
     change wpList _ _ _ _ _ (w9.setRow b (cs8.set 92 (.slice (some ⟨w8.heap.size,0,none⟩) 2 cap)).toArray)
     generalize w9.setRow b (cs8.set 92 (.slice (some ⟨w8.heap.size,0,none⟩) 2 cap)).toArray=w10 at wr10 ⊢
     have hT10:Tc w.heap.size b 2 w10 (cs8.set 92 (.slice (some ⟨w8.heap.size,0,none⟩) 2 cap)):=hT9.next hx8.sizeOf hty9 hr9 (fun j hj=>(by obtain rfl:j=0:=(by omega);decide)) wr10
     have ho10:=(ho8.ext hx9).keep wr10 (by decide)
     have hx10:Ext w w10:=(hx8.trans hx9).trans' ⟨wr10.os,wr10.tape,wr10.output,Nat.le_of_eq wr10.size.symm,fun k hk=>wr10.other k (by have:=hT9.low;omega)⟩
     have hv10:(cs8.set 92 (.slice (some ⟨w8.heap.size,0,none⟩) 2 cap))[256]?=some (.slice A7 (tRep.take 1 ++ [[st [92]]]).length c7):=by rw [List.getElem?_set_ne (by decide)];exact hv8
     clear hT8 hT9 ho8 hx9 hr9 hty9 wr10 hx8 hv8
     apply wpList_nil
     repeat' (first|((with_reducible apply wp_seq_k);intro K hK)|(simp only [Exit.then,Exit.inBlock,↓reduceIte,Nat.reduceEqDiff])|(with_reducible first|apply wp_block|apply wp_skip|apply wp_exit)|((with_reducible apply wp_cond_true);exact rfl)|((with_reducible apply wp_cond_false);exact rfl)|(((with_reducible apply wp_cond_split);exact rfl)<;>intro hb<;>(try simp only [SPLT] at hb)<;>(try (have hbl:=And.left hb;have hbr:=And.right hb))<;>(try (have hbll:=And.left hbl;have hblr:=And.right hbl))<;>(try exact spE))|((with_reducible apply (wp_region_lit (id:=29)));((apply l_move);exact evE;(try simp only [SS,Nat.reduceAdd]));((apply l_sub);exact rfl;exact rfl;(focus (first|(apply IntWalk.i64_in;omega)|exact IntWalk.i64_left _));(try simp only [SS,Nat.reduceAdd]));((apply l_assign);exact evE;(try simp only [SS,Nat.reduceAdd]));(apply wpList_nil))|((fail_if_success with_reducible first|apply no_region|apply no_list|apply no_par|apply no_loop);go_step))
     exact ⟨⟨2,_,_,.inr (.inr ⟨rfl,rfl⟩),hT10,hv10,ho10,hx10⟩,by decide⟩
    ·repeat' (first|((with_reducible apply wp_seq_k);intro K hK)|(simp only [Exit.then,Exit.inBlock,↓reduceIte,Nat.reduceEqDiff])|(with_reducible first|apply wp_block|apply wp_skip|apply wp_exit)|((with_reducible apply wp_cond_true);exact rfl)|((with_reducible apply wp_cond_false);exact rfl)|(((with_reducible apply wp_cond_split);exact rfl)<;>intro hb<;>(try simp only [SPLT] at hb)<;>(try (have hbl:=And.left hb;have hbr:=And.right hb))<;>(try (have hbll:=And.left hbl;have hblr:=And.right hbl))<;>(try exact spE))|((with_reducible apply (wp_region_lit (id:=28)));((apply l_move);exact evE;(try simp only [SS,Nat.reduceAdd]));((apply l_geq);exact rfl;exact rfl;(try simp only [SS,Nat.reduceAdd]));(apply wpList_nil))|((fail_if_success with_reducible first|apply no_region|apply no_list|apply no_par|apply no_loop);go_step))
     with_reducible apply (wp_region_lit (id:=35))
     refine wpList_plain rfl fun K1 hK1=>wp_run (v:=.iface 153 (.pointer (some ⟨b,0,none⟩))) (by
      have hu:=Tryz.underlying153
      simp only [execOp,Instr.makeInterface,Sem.run_bind,run_underlying hu,Result.andThen_ok]
      rfl) (hK1 _ _ ?_)
     (try simp only [SS,Nat.reduceAdd])
     (apply l_assign);exact evE;(try simp only [SS,Nat.reduceAdd])
     apply wpList_nil
     repeat' (first|(with_reducible first|apply wp_block|apply wp_skip|apply wp_exit)|((with_reducible apply wp_seq_k);intro K hK)|simp only [Exit.then,Exit.inBlock,↓reduceIte,Nat.reduceEqDiff]|((with_reducible apply wp_cond_true);exact rfl)|((with_reducible apply wp_cond_false);exact rfl)|((fail_if_success with_reducible apply no_region);go_step))
     go_ret
     exact ⟨b,rfl,hx,cs,v,hT,hv,ho⟩
end Go.Proofs.YtindehjiaknokaaGreatDoor
