/- The bytes at which a path ends: strings.ContainsRune (walk) and strings.Contains. -/
import Derived.Test.YtindehjiaknokaaGreatDoorZ21
import Derived.Laws.Runes
namespace Go.Proofs.YtindehjiaknokaaGreatDoor
set_option linter.unusedSimpArgs false
set_option linter.unusedVariables false
open Go.RowKit
set_option maxRecDepth 100000
set_option maxHeartbeats 8000000
def stops:Str := [32,40,41,44]
section
variable {P:Program} {Q:Exit→Act→World→Prop} {K:Act→World→Prop} {a:Act} {w:World}
 {dst:Option Tmp} {ty:TypeId} {pos:String} {after:Array Edge} {guard:Option (Nat × Bool)} {ops:Array Oper} {rest:List Oper}
theorem l_runeStr {x:Operand} {t t':Nat} [TStr P t'] {k:IntKind} {n:Int} (ht:(P.underlying t).isSome=true) (hx:a.eval x=.int k n)
  (hr:wpList P ops Q rest (a.put dst (.string (Utf8.encode n))) w):wpList P ops Q (Oper.mk dst (.convert t t' x) ty pos after none::rest) a w:=by
 have hrun:=run_convert_int_string (P:=P) w t t' k n ht (TStr.h (P:=P) (t:=t'))
 refine wpList_plain rfl fun K hK=>wp_run ?_ (hK _ _ hr)
 simp only [execOp,hx,Sem.run_bind,hrun,Sem.run_pure,Result.andThen_ok]
theorem p_sliceLo {t:Nat} [TStr P t] {x lo:Operand} {k:IntKind} {s:List UInt8} {l:Nat} {ss:List Spec} {fs:List (World→Prop)} (hx:a.eval x=.string ⟨s.toArray⟩) (hl:a.eval lo=.int k l) (h1:l≤s.length)
  (hr:ParSteps P ops Q w rest ss (fs ++ [fun _=>True]) (a.put dst (.string ⟨(s.drop l).toArray⟩))):ParSteps P ops Q w (Oper.mk dst (.slice t x (some lo) none none) ty pos after none::rest) (Spec.det (.string ⟨(s.drop l).toArray⟩)::ss) fs a:=by
 refine par_val rfl (fun w1 hw1 K hK => ?_) hr
 refine r_slice_str (l:=l) (h:=s.length) hx ⟨k,hl⟩ rfl h1 (Nat.le_refl _) ?_
 rw [List.take_length]
 exact hK _ (Ext.refl _)
end
def rune2 (r:Nat):Str := [UInt8.ofNat (192+r / 64),UInt8.ofNat (128+r % 64)]
theorem encode2 {r:Nat} (h1:128≤r) (h2:r < 256):Utf8.encode r=⟨(rune2 r).toArray⟩:=by
 unfold rune2
 have hv:Utf8.valid (r:Int)=true:=by
  unfold Utf8.valid
  simp only [Bool.or_eq_true,Bool.and_eq_true,decide_eq_true_eq]
  omega
 unfold Utf8.encode
 simp only [hv,if_true,Int.toNat_natCast,if_neg (show ¬ r < 128 by omega),if_pos (show r < 2048 by omega)]
theorem valid_at (r:Nat) (h2:r < 256) (w:World):Calls Tryz.prog 109 #[.int .i32 r] w fun e w'=>e=.returned (.bool true)∧Ext w w':=by
 go_enter Tryz.func109,Tryz.ntmps109
 repeat' (first|((with_reducible apply wp_seq_k);intro K hK)|(simp only [Exit.then,Exit.inBlock,↓reduceIte,Nat.reduceEqDiff])|(with_reducible first|apply wp_block|apply wp_skip|apply wp_exit)|((with_reducible apply wp_cond_true);exact rfl)|((with_reducible apply wp_cond_false);exact rfl)|(((with_reducible apply wp_cond_split);exact rfl)<;>intro hb<;>(try simp only [SPLT] at hb)<;>(try (have hbl:=And.left hb;have hbr:=And.right hb))<;>(try (have hbll:=And.left hbl;have hblr:=And.right hbl))<;>(try exact spE))|((with_reducible apply (wp_region_lit (id:=0)));((apply l_assign);exact evE;(try simp only [SS,Nat.reduceAdd]));(apply wpList_nil))|((fail_if_success with_reducible first|apply no_region|apply no_list|apply no_par|apply no_loop);go_step))
 (with_reducible apply (wp_region_seq (id:=1)))
 (apply p_move);exact evE;(try simp only [SS,Nat.reduceAdd])
 (apply p_leq);exact rfl;exact rfl;(try simp only [SS,Nat.reduceAdd])
 (apply p_move);exact evE;(try simp only [SS,Nat.reduceAdd])
 (with_reducible apply par_ct);exact rfl;exact rfl;(focus (intro hg1 w1 hx K hK;have hq1:=hg1;(try simp only [decide_eq_true_eq,decide_eq_false_iff_not,Int.not_lt,Int.not_le] at hq1);(try simp only [hg1,GS2] at hK ⊢);((with_reducible apply r_move);exact evE;exact hK _ (Ext.refl _))));(try simp only [SS,Nat.reduceAdd])
 (with_reducible apply par_ct);exact rfl;exact rfl;(focus (intro hg1 w1 hx K hK;have hq1:=hg1;(try simp only [decide_eq_true_eq,decide_eq_false_iff_not,Int.not_lt,Int.not_le] at hq1);(try simp only [hg1,GS2] at hK ⊢);((with_reducible apply r_lss);exact rfl;exact rfl;exact hK _ (Ext.refl _))));(try simp only [SS,Nat.reduceAdd])
 rw [show decide ((r:Int) < 55296)=true from decide_eq_true (by omega)]
 (apply p_and);exact rfl;exact rfl;(try simp only [SS,Nat.reduceAdd])
 (apply p_assign);exact evE;(try simp only [SS,Nat.reduceAdd])
 (apply par_nil);intro v1 hv1 _
 repeat' (first|((with_reducible apply wp_seq_k);intro K hK)|(simp only [Exit.then,Exit.inBlock,↓reduceIte,Nat.reduceEqDiff])|(with_reducible first|apply wp_block|apply wp_skip|apply wp_exit)|((with_reducible apply wp_cond_true);exact rfl)|((with_reducible apply wp_cond_false);exact rfl)|(((with_reducible apply wp_cond_split);exact rfl)<;>intro hb<;>(try simp only [SPLT] at hb)<;>(try (have hbl:=And.left hb;have hbr:=And.right hb))<;>(try (have hbll:=And.left hbl;have hblr:=And.right hbl))<;>(try exact spE))|((with_reducible apply (wp_region_lit (id:=2)));((apply l_assign);exact evE;(try simp only [SS,Nat.reduceAdd]));(apply wpList_nil))|((fail_if_success with_reducible first|apply no_region|apply no_list|apply no_par|apply no_loop);go_step))
 go_ret
 exact ⟨rfl,hv1⟩
theorem noByte {r:Nat} (h1:128≤r) (h2:r < 256):Lib.indexByte [41,44] (UInt8.ofNat (128+r % 64)) = -1:=by
 have hc:128≤(UInt8.ofNat (128+r % 64)).toNat:=by simp;omega
 generalize UInt8.ofNat (128+r % 64)=c at hc
 have e1:((41:UInt8) == c)=false:=by rw [beq_eq_false_iff_ne];rintro rfl;revert hc;decide
 have e2:((44:UInt8) == c)=false:=by rw [beq_eq_false_iff_ne];rintro rfl;revert hc;decide
 simp [Lib.indexByte,e1,e2]
theorem ixB (c:Int) (s:Str) (w:World):Calls Tryz.prog 108 #[.string ⟨s.toArray⟩,.int .u8 c] w fun e w'=>e=.returned (.int .i64 (Lib.indexByte s c.toNat.toUInt8))∧Ext w w':=by
 refine (Tryz.strings_IndexByte ⟨s.toArray⟩ c w).mono fun e w' ⟨h1,h2⟩=>⟨?_,h2 ▸ Ext.refl _⟩
 rw [h1]
theorem indexRune_at (r:Nat) (h1:128≤r) (h2:r < 256) (w:World):Calls Tryz.prog 87 #[.string ⟨stops.toArray⟩,.int .i32 r] w fun e w'=>e=.returned (.int .i64 (-1))∧Ext w w':=by
 go_enter Tryz.func87,Tryz.ntmps87
 repeat' (first|((with_reducible apply wp_seq_k);intro K hK)|(simp only [Exit.then,Exit.inBlock,↓reduceIte,Nat.reduceEqDiff])|(with_reducible first|apply wp_block|apply wp_skip|apply wp_exit)|((with_reducible apply wp_cond_true);exact rfl)|((with_reducible apply wp_cond_false);exact rfl)|(((with_reducible apply wp_cond_split);exact rfl)<;>intro hb<;>(try simp only [SPLT] at hb)<;>(try (have hbl:=And.left hb;have hbr:=And.right hb))<;>(try (have hbll:=And.left hbl;have hblr:=And.right hbl))<;>(try exact spE))|((with_reducible apply (wp_region_lit (id:=0)));((apply l_assign);exact evE;(try simp only [SS,Nat.reduceAdd]));(apply wpList_nil))|((with_reducible apply (wp_region_seq (id:=34)));((apply p_move);exact evE;(try simp only [SS,Nat.reduceAdd]));((apply p_leq);exact rfl;exact rfl;(try simp only [SS,Nat.reduceAdd]));((apply p_move);exact evE;(try simp only [SS,Nat.reduceAdd]));((with_reducible apply par_ct);exact rfl;exact rfl;(focus (intro hg1 w1 hx K hK;have hq1:=hg1;(try simp only [decide_eq_true_eq,decide_eq_false_iff_not,Int.not_lt,Int.not_le] at hq1);(try simp only [hg1,GS2] at hK ⊢);((with_reducible apply r_move);exact evE;exact hK _ (Ext.refl _))));(try simp only [SS,Nat.reduceAdd]));((with_reducible apply par_ct);exact rfl;exact rfl;(focus (intro hg1 w1 hx K hK;have hq1:=hg1;(try simp only [decide_eq_true_eq,decide_eq_false_iff_not,Int.not_lt,Int.not_le] at hq1);(try simp only [hg1,GS2] at hK ⊢);((with_reducible apply r_lss);exact rfl;exact rfl;exact hK _ (Ext.refl _))));(try simp only [SS,Nat.reduceAdd]));((apply p_and);exact rfl;exact rfl;(try simp only [SS,Nat.reduceAdd]));((apply p_assign);exact evE;(try simp only [SS,Nat.reduceAdd]));((apply par_nil);intro v34 hv34 _))|((with_reducible apply (wp_region_lit (id:=36)));((apply l_move);exact evE;(try simp only [SS,Nat.reduceAdd]));((apply l_eql);exact rfl;exact rfl;(try simp only [SS,Nat.reduceAdd]));((apply l_assign);exact evE;(try simp only [SS,Nat.reduceAdd]));(apply wpList_nil))|((with_reducible apply (wp_region_lit (id:=43)));((apply l_move);exact evE;(try simp only [SS,Nat.reduceAdd]));((apply l_enter);exact evE;first|((with_reducible refine (valid_at _ ?_ _).mono ?_);(focus (first|assumption|exact rfl|omega|((apply SlR.ext);(focus assumption);(focus (repeat (first|exact xr _|assumption|(apply xt;assumption))));done)|((apply Own.ext);(focus assumption);(focus (repeat (first|exact xr _|assumption|(apply xt;assumption))));done)|(simp;done)));rintro e w185 ⟨rfl,hx185⟩;(try simp only []);(try simp only [SS,Nat.reduceAdd])));((apply l_not);exact rfl;(try simp only [SS,Nat.reduceAdd]));((apply l_assign);exact evE;(try simp only [SS,Nat.reduceAdd]));(apply wpList_nil))|((fail_if_success with_reducible first|apply no_region|apply no_list|apply no_par|apply no_loop);go_step))
 apply wp_scope_straight
 repeat' (first|((with_reducible apply wp_seq_k);intro K hK)|(simp only [Exit.then,Exit.inBlock,↓reduceIte,Nat.reduceEqDiff])|(with_reducible first|apply wp_block|apply wp_skip|apply wp_exit)|((with_reducible apply wp_cond_true);exact rfl)|((with_reducible apply wp_cond_false);exact rfl)|(((with_reducible apply wp_cond_split);exact rfl)<;>intro hb<;>(try simp only [SPLT] at hb)<;>(try (have hbl:=And.left hb;have hbr:=And.right hb))<;>(try (have hbll:=And.left hbl;have hblr:=And.right hbl))<;>(try exact spE))|((fail_if_success with_reducible first|apply no_region|apply no_list|apply no_par|apply no_loop);go_step))
 with_reducible apply (wp_region_lit (id:=1))
 (apply l_move);exact evE;(try simp only [SS,Nat.reduceAdd])
 (apply l_runeStr);exact rfl;exact rfl;rw [encode2 h1 h2];(try simp only [SS,Nat.reduceAdd])
 (apply l_assign);exact evE;(try simp only [SS,Nat.reduceAdd])
 apply wpList_nil
 repeat' (first|((with_reducible apply wp_seq_k);intro K hK)|(simp only [Exit.then,Exit.inBlock,↓reduceIte,Nat.reduceEqDiff])|(with_reducible first|apply wp_block|apply wp_skip|apply wp_exit)|((with_reducible apply wp_cond_true);exact rfl)|((with_reducible apply wp_cond_false);exact rfl)|(((with_reducible apply wp_cond_split);exact rfl)<;>intro hb<;>(try simp only [SPLT] at hb)<;>(try (have hbl:=And.left hb;have hbr:=And.right hb))<;>(try (have hbll:=And.left hbl;have hblr:=And.right hbl))<;>(try exact spE))|((with_reducible apply (wp_region_lit (id:=2)));((apply l_move);exact evE;(try simp only [SS,Nat.reduceAdd]));((apply l_len_str);exact rfl;(try simp only [SS,Nat.reduceAdd]));((apply l_sub);exact rfl;exact rfl;(focus (first|(apply IntWalk.i64_in;omega)|exact IntWalk.i64_left _));(try simp only [SS,Nat.reduceAdd]));((apply l_assign);exact evE;(try simp only [SS,Nat.reduceAdd]));(apply wpList_nil))|((with_reducible apply (wp_region_lit (id:=3)));((apply l_move);exact evE;(try simp only [SS,Nat.reduceAdd]));((apply l_assign);exact evE;(try simp only [SS,Nat.reduceAdd]));(apply wpList_nil))|((with_reducible apply (wp_region_lit (id:=4)));((apply l_assign);exact evE;(try simp only [SS,Nat.reduceAdd]));(apply wpList_nil))|((fail_if_success with_reducible first|apply no_region|apply no_list|apply no_par|apply no_loop);go_step))
 have hl:wrap64 (((rune2 r).length:Int) - 1)=1:=by
  rw [show (rune2 r).length=2 from rfl]
  exact IntWalk.wrap64_in _ (by omega)
 simp only [hl]
 have hs4:stops.length=4:=rfl
 have hr2:(rune2 r).length=2:=rfl
 go_loopw [9] (fun v9 wr=>Ext w wr∧v9=.int .i64 1) (fun _ _=>0)
 case atStart=>exact ⟨by first|assumption|(exact hv34.trans (by assumption)),rfl⟩
 case round=>
  obtain ⟨hx,rfl⟩:=hrel
  repeat' (first|((with_reducible apply wp_seq_k);intro K hK)|(simp only [Exit.then,Exit.inBlock,↓reduceIte,Nat.reduceEqDiff])|(with_reducible first|apply wp_block|apply wp_skip|apply wp_exit)|((with_reducible apply wp_cond_true);exact rfl)|((with_reducible apply wp_cond_false);exact rfl)|(((with_reducible apply wp_cond_split);exact rfl)<;>intro hb<;>(try simp only [SPLT] at hb)<;>(try (have hbl:=And.left hb;have hbr:=And.right hb))<;>(try (have hbll:=And.left hbl;have hblr:=And.right hbl))<;>(try exact spE))|((with_reducible apply (wp_region_lit (id:=5)));((apply l_move);exact evE;(try simp only [SS,Nat.reduceAdd]));((apply l_move);exact evE;(try simp only [SS,Nat.reduceAdd]));((apply l_len_str);exact rfl;(try simp only [SS,Nat.reduceAdd]));((apply l_lss);exact rfl;exact rfl;(try simp only [SS,Nat.reduceAdd]));(apply wpList_nil))|((fail_if_success with_reducible first|apply no_region|apply no_list|apply no_par|apply no_loop);go_step))
  apply wp_scope_straight
  repeat' (first|((with_reducible apply wp_seq_k);intro K hK)|(simp only [Exit.then,Exit.inBlock,↓reduceIte,Nat.reduceEqDiff])|(with_reducible first|apply wp_block|apply wp_skip|apply wp_exit)|((with_reducible apply wp_cond_true);exact rfl)|((with_reducible apply wp_cond_false);exact rfl)|(((with_reducible apply wp_cond_split);exact rfl)<;>intro hb<;>(try simp only [SPLT] at hb)<;>(try (have hbl:=And.left hb;have hbr:=And.right hb))<;>(try (have hbll:=And.left hbl;have hblr:=And.right hbl))<;>(try exact spE))|((fail_if_success with_reducible first|apply no_region|apply no_list|apply no_par|apply no_loop);go_step))
  (((with_reducible apply (wp_region_par (id:=6)));kernel_rfl;kernel_rfl;exact rfl))
  (apply p_move);exact evE;(try simp only [SS,Nat.reduceAdd])
  (apply p_move);exact evE;(try simp only [SS,Nat.reduceAdd])
  ((with_reducible apply (p_index_str (s:=stops)));exact rfl;exact rfl;(focus (first|assumption|omega));(focus (first|assumption|omega));(try simp only [SS,Nat.reduceAdd]))
  (apply p_move);exact evE;(try simp only [SS,Nat.reduceAdd])
  (apply p_move);exact evE;(try simp only [SS,Nat.reduceAdd])
  ((with_reducible apply (p_index_str (s:=rune2 r)));exact rfl;exact rfl;(focus (first|assumption|omega));(focus (first|assumption|omega));(try simp only [SS,Nat.reduceAdd]))
  ((apply p_neq);exact rfl;exact rfl;(try simp only [SS,Nat.reduceAdd]))
  ((apply par_nil);intro v6 hv6 _)
  repeat' (first|((with_reducible apply wp_seq_k);intro K hK)|(simp only [Exit.then,Exit.inBlock,↓reduceIte,Nat.reduceEqDiff])|(with_reducible first|apply wp_block|apply wp_skip|apply wp_exit)|((with_reducible apply wp_cond_true);exact rfl)|((with_reducible apply wp_cond_false);exact rfl)|(((with_reducible apply wp_cond_split);exact rfl)<;>intro hb<;>(try simp only [SPLT] at hb)<;>(try (have hbl:=And.left hb;have hbr:=And.right hb))<;>(try (have hbll:=And.left hbl;have hblr:=And.right hbl))<;>(try exact spE))|((fail_if_success with_reducible first|apply no_region|apply no_list|apply no_par|apply no_loop);go_step))
  ·(((with_reducible apply (wp_region_par (id:=7)));kernel_rfl;kernel_rfl;exact rfl))
   (apply p_move);exact evE;(try simp only [SS,Nat.reduceAdd])
   (apply p_move);exact evE;(try simp only [SS,Nat.reduceAdd])
   ((apply p_add);exact rfl;exact rfl;(focus (first|(apply IntWalk.i64_in;omega)|exact IntWalk.i64_left _));(try simp only [SS,Nat.reduceAdd]))
   ((with_reducible apply (p_sliceLo (s:=stops) (l:=2)));exact rfl;exact rfl;(focus decide);(try simp only [SS,Nat.reduceAdd]))
   (apply p_move);exact evE;(try simp only [SS,Nat.reduceAdd])
   (apply p_move);exact evE;(try simp only [SS,Nat.reduceAdd])
   ((with_reducible apply (p_index_str (s:=rune2 r)));exact rfl;exact rfl;(focus (first|assumption|omega));(focus (first|assumption|omega));(try simp only [SS,Nat.reduceAdd]))
   ((apply p_enter);exact evE;((focus (intro w1 hw1;(with_reducible refine (ixB _ _ _).mono ?_); rintro e w41 ⟨rfl,hx41⟩;exact ⟨rfl,hx41⟩));(try simp only [SS,Nat.reduceAdd])))
   (apply p_assign);exact evE;(try simp only [SS,Nat.reduceAdd])
   ((apply par_nil);intro v7 hv7 _)
   have hix:Lib.indexByte (stops.drop 2) ((List.getD (rune2 r) (Int.toNat 1) 0).toNat.toUInt8) = -1:=by
    rw [show ((List.getD (rune2 r) (Int.toNat 1) 0).toNat).toUInt8=UInt8.ofNat (128+r % 64) from UInt8.toNat_inj.1 (by show ((UInt8.ofNat (128+r % 64)).toNat.toUInt8).toNat=_;simp)]
    exact noByte h1 h2
   repeat' (first|((with_reducible apply wp_seq_k);intro K hK)|(simp only [Exit.then,Exit.inBlock,↓reduceIte,Nat.reduceEqDiff])|(with_reducible first|apply wp_block|apply wp_skip|apply wp_exit)|((with_reducible apply wp_cond_true);exact rfl)|((with_reducible apply wp_cond_false);exact rfl)|(((with_reducible apply wp_cond_split);exact rfl)<;>intro hb<;>(try simp only [SPLT] at hb)<;>(try (have hbl:=And.left hb;have hbr:=And.right hb))<;>(try (have hbll:=And.left hbl;have hblr:=And.right hbl))<;>(try exact spE))|((with_reducible apply (wp_region_lit (id:=8)));((apply l_move);exact evE;(try simp only [SS,Nat.reduceAdd]));((apply l_lss);exact rfl;exact rfl;(try simp only [SS,Nat.reduceAdd]));(apply wpList_nil))|((with_reducible apply (wp_region_lit (id:=9)));((apply l_assign);exact evE;(try simp only [SS,Nat.reduceAdd]));(apply wpList_nil))|((fail_if_success with_reducible first|apply no_region|apply no_list|apply no_par|apply no_loop);go_step))
   ·simp only [Exit.noGoto_ret]
    simp (config:={ zetaDelta:=true }) only [Exit.inBlock,Exit.then,Exit.noGoto_ret]
    go_ret
    exact ⟨rfl,hx.trans (by first|assumption|exact hv6.trans hv7)⟩
  ·exfalso
   have hc:(List.getD (rune2 r) (Int.toNat 1) 0).toNat=(128+r % 64) % 256:=by
    show (UInt8.ofNat (128+r % 64)).toNat=_
    simp
   have hd:(List.getD stops (Int.toNat 1) 0).toNat=40:=rfl
   omega
theorem stop_ix (c:UInt8):decide (0≤Lib.indexByte stops c)=isStop c:=by
 unfold isStop stops
 rw [Bool.eq_iff_iff]
 simp only [decide_eq_true_eq,Bool.or_eq_true,beq_iff_eq]
 by_cases h1:c=32
 ·subst h1;decide
 by_cases h2:c=40
 ·subst h2;decide
 by_cases h3:c=41
 ·subst h3;decide
 by_cases h4:c=44
 ·subst h4;decide
 have e1:((32:UInt8) == c)=false:=by rw [beq_eq_false_iff_ne];exact fun h=>h1 h.symm
 have e2:((40:UInt8) == c)=false:=by rw [beq_eq_false_iff_ne];exact fun h=>h2 h.symm
 have e3:((41:UInt8) == c)=false:=by rw [beq_eq_false_iff_ne];exact fun h=>h3 h.symm
 have e4:((44:UInt8) == c)=false:=by rw [beq_eq_false_iff_ne];exact fun h=>h4 h.symm
 simp [Lib.indexByte,e1,e2,e3,e4,h1,h2,h3,h4]
theorem indexRune_sem (c:UInt8) (h1:128≤c.toNat):Sem Tryz.prog 87 [.str stops,.int .i32 c.toNat] (.int .i64 (-1)):=
 sem_valsK (us := [.string ⟨stops.toArray⟩,.int .i32 c.toNat]) (v:=.int .i64 (-1)) rfl rfl (fun _ _=>.int _ _) fun w=>indexRune_at c.toNat h1 (UInt8.toNat_lt c) w
theorem containsRune_sem (c:UInt8):Sem Tryz.prog 67 [.str stops,.int .i32 c.toNat] (.bool (isStop c)):=by
 by_cases h:c.toNat < 128
 ·refine sem_valsK (us := [.string ⟨stops.toArray⟩,.int .i32 c.toNat]) (v:=.bool (isStop c)) rfl rfl (fun _ _=>.bool _) fun w => ?_
  refine (Tryz.strings_ContainsRune_ascii ⟨stops.toArray⟩ c.toNat w (by omega) (by omega)).mono fun e w' ⟨h1,h2⟩=>⟨?_,h2 ▸ Ext.refl _⟩
  rw [h1,← stop_ix]
  simp
 ·have hr:=indexRune_sem c (by omega)
  have hf:isStop c=false:=by
   unfold isStop
   simp only [Bool.or_eq_false_iff,beq_eq_false_iff_ne]
   refine ⟨⟨⟨?_,?_⟩,?_⟩,?_⟩<;>(rintro rfl;exact h (by decide))
  rw [hf]
  refine si [1000016,1000020,1000030,1000034,1000038,1000041] Tryz.func67 ?_
  repeat'((conv=>whnf);first|(try(first|apply eN|apply eC);conv=>whnf);apply sD;(focus first|exact gx hr|(refine gx (indexRune_sem ?_ ?_)<;>exact pre)|exact side)|apply rR|apply rE|apply rH| (apply cD<;>intro hb<;>(try simp only[SPLT]at hb)<;>try exact noB))
  all_goals try exact false
  exact finR
theorem stopsC_sem (c:UInt8):Sem Tryz.prog 71 [.str stops,.str [c]] (.bool (isStop c)):=by
 refine sem_valsK (us := [.string ⟨stops.toArray⟩,.string ⟨#[c]⟩]) (v:=.bool (isStop c)) rfl rfl (fun _ _=>.bool _) fun w => ?_
 refine (Tryz.strings_Contains_one ⟨stops.toArray⟩ c w).mono fun e w' ⟨h1,h2⟩=>⟨?_,h2 ▸ Ext.refl _⟩
 rw [h1,← stop_ix]
end Go.Proofs.YtindehjiaknokaaGreatDoor
