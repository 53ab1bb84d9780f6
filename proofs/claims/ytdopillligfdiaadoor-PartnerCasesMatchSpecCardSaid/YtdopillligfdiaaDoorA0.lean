/- Contracts: whether a number lies within two others. -/
import Derived.Test.YtdopillligfdiaaDoorVal
import Derived.Test.YtdopillligfdiaaDoorInst
import Derived.Test.YtdopillligfdiaaDoorElem
namespace Go.Proofs.YtdopillligfdiaaDoor
set_option linter.unusedSimpArgs false
set_option linter.unusedVariables false
open Go.RowKit
set_option maxRecDepth 100000
set_option maxHeartbeats 1000000

theorem outside_any (n a b : Int) (w : World) :
    Calls Tryd.prog 95 #[.int .i64 n, .int .i64 a, .int .i64 b] w fun e w' => e = .returned (.bool (outB n a b)) ∧ Ext w w' := by
  go_enter Tryd.func95, Tryd.ntmps95
  repeat' (
      first
        | ((with_reducible apply wp_seq_k); intro K hK)
        | (simp only [Exit.then, Exit.inBlock, ↓reduceIte, Nat.reduceEqDiff])
        | with_reducible apply wp_block
        | with_reducible apply wp_skip
        | with_reducible apply wp_exit
        | ((with_reducible apply wp_cond_true); (focus exact rfl))
        | ((with_reducible apply wp_cond_false); (focus exact rfl))
        | (((with_reducible apply wp_cond_split); (focus exact rfl)) <;> intro hb <;> (try simp only [bne_iff_ne, ne_eq, bne_eq_false_iff_eq, beq_iff_eq, beq_eq_false_iff_ne, decide_eq_true_eq, decide_eq_false_iff_not, Bool.not_eq_true', Bool.not_eq_false', Bool.and_eq_true, Bool.or_eq_true, Bool.and_eq_false_iff, Bool.or_eq_false_iff, Int.not_lt, Int.not_le, Bool.not_eq_true, Bool.not_eq_false] at hb) <;> (try (have hbl := And.left hb; have hbr := And.right hb)) <;> (try (have hbll := And.left hbl; have hblr := And.right hbl)) <;> (try first | contradiction | exact (bff hb (by assumption)).elim | exact (bft hb (by assumption)).elim | (exfalso; omega)))
        | ((with_reducible apply (wp_region_lit (id := 0)))
           ((with_reducible apply l_assign); (focus (first | (simp only [EE]; done) | (simp only [EE]; exact rfl) | exact rfl)); (try simp only [SS, Nat.reduceAdd]))
           (with_reducible apply wpList_nil))
        | ((with_reducible apply (wp_region_seq (id := 1)))
           ((with_reducible apply p_move); (focus (first | (simp only [EE]; done) | (simp only [EE]; exact rfl) | exact rfl)); (try simp only [SS, Nat.reduceAdd]))
           ((with_reducible apply p_move); (focus (first | (simp only [EE]; done) | (simp only [EE]; exact rfl) | exact rfl)); (try simp only [SS, Nat.reduceAdd]))
           ((with_reducible apply p_lss); (focus exact rfl); (focus exact rfl); (try simp only [SS, Nat.reduceAdd]))
           ((with_reducible apply p_move); (focus (first | (simp only [EE]; done) | (simp only [EE]; exact rfl) | exact rfl)); (try simp only [SS, Nat.reduceAdd]))
           ((with_reducible apply par_cf); (focus exact rfl); (focus exact rfl); (focus (intro hg1 w1 hx K hK; have hq1 := hg1; (try simp only [decide_eq_true_eq, decide_eq_false_iff_not, Int.not_lt, Int.not_le] at hq1); (try simp only [hg1, GS2] at hK ⊢); ((with_reducible apply r_move); (focus (first | (simp only [EE]; done) | (simp only [EE]; exact rfl) | exact rfl)); exact hK _ (Ext.refl _)))); (try simp only [SS, Nat.reduceAdd]))
           ((with_reducible apply par_cf); (focus exact rfl); (focus exact rfl); (focus (intro hg1 w1 hx K hK; have hq1 := hg1; (try simp only [decide_eq_true_eq, decide_eq_false_iff_not, Int.not_lt, Int.not_le] at hq1); (try simp only [hg1, GS2] at hK ⊢); ((with_reducible apply r_move); (focus (first | (simp only [EE]; done) | (simp only [EE]; exact rfl) | exact rfl)); exact hK _ (Ext.refl _)))); (try simp only [SS, Nat.reduceAdd]))
           ((with_reducible apply par_cf); (focus exact rfl); (focus exact rfl); (focus (intro hg1 w1 hx K hK; have hq1 := hg1; (try simp only [decide_eq_true_eq, decide_eq_false_iff_not, Int.not_lt, Int.not_le] at hq1); (try simp only [hg1, GS2] at hK ⊢); ((with_reducible apply r_gtr); (focus exact rfl); (focus exact rfl); exact hK _ (Ext.refl _)))); (try simp only [SS, Nat.reduceAdd]))
           ((with_reducible apply p_or); (focus exact rfl); (focus exact rfl); (try simp only [SS, Nat.reduceAdd]))
           ((with_reducible apply p_assign); (focus (first | (simp only [EE]; done) | (simp only [EE]; exact rfl) | exact rfl)); (try simp only [SS, Nat.reduceAdd]))
           ((with_reducible apply par_nil); intro v1 hv1 _))
        | ((fail_if_success (with_reducible apply no_region)); (fail_if_success (with_reducible apply no_list)); (fail_if_success (with_reducible apply no_oper)); (fail_if_success (with_reducible apply no_par)); (fail_if_success (with_reducible apply no_loop)); go_step))
  all_goals
    go_ret
    refine ⟨ret_bool ?_, (by (focus (repeat (first | exact xr _ | assumption | (apply xt; assumption)))))⟩
    simp [outB, *]
theorem within_any (n a b : Int) (w : World) :
    Calls Tryd.prog 68 #[.int .i64 n, .int .i64 a, .int .i64 b] w fun e w' => e = .returned (.bool (!outB n a b)) ∧ Ext w w' := by
  go_enter Tryd.func68, Tryd.ntmps68
  repeat' (
      first
        | ((with_reducible apply wp_seq_k); intro K hK)
        | (simp only [Exit.then, Exit.inBlock, ↓reduceIte, Nat.reduceEqDiff])
        | with_reducible apply wp_block
        | with_reducible apply wp_skip
        | with_reducible apply wp_exit
        | ((with_reducible apply wp_cond_true); (focus exact rfl))
        | ((with_reducible apply wp_cond_false); (focus exact rfl))
        | (((with_reducible apply wp_cond_split); (focus exact rfl)) <;> intro hb <;> (try simp only [bne_iff_ne, ne_eq, bne_eq_false_iff_eq, beq_iff_eq, beq_eq_false_iff_ne, decide_eq_true_eq, decide_eq_false_iff_not, Bool.not_eq_true', Bool.not_eq_false', Bool.and_eq_true, Bool.or_eq_true, Bool.and_eq_false_iff, Bool.or_eq_false_iff, Int.not_lt, Int.not_le, Bool.not_eq_true, Bool.not_eq_false] at hb) <;> (try (have hbl := And.left hb; have hbr := And.right hb)) <;> (try (have hbll := And.left hbl; have hblr := And.right hbl)) <;> (try first | contradiction | exact (bff hb (by assumption)).elim | exact (bft hb (by assumption)).elim | (exfalso; omega)))
        | ((with_reducible apply (wp_region_lit (id := 0)))
           ((with_reducible apply l_assign); (focus (first | (simp only [EE]; done) | (simp only [EE]; exact rfl) | exact rfl)); (try simp only [SS, Nat.reduceAdd]))
           (with_reducible apply wpList_nil))
        | ((with_reducible apply (wp_region_seq (id := 1)))
           ((with_reducible apply p_move); (focus (first | (simp only [EE]; done) | (simp only [EE]; exact rfl) | exact rfl)); (try simp only [SS, Nat.reduceAdd]))
           ((with_reducible apply p_move); (focus (first | (simp only [EE]; done) | (simp only [EE]; exact rfl) | exact rfl)); (try simp only [SS, Nat.reduceAdd]))
           ((with_reducible apply p_leq); (focus exact rfl); (focus exact rfl); (try simp only [SS, Nat.reduceAdd]))
           ((with_reducible apply p_move); (focus (first | (simp only [EE]; done) | (simp only [EE]; exact rfl) | exact rfl)); (try simp only [SS, Nat.reduceAdd]))
           ((with_reducible apply par_ct); (focus exact rfl); (focus exact rfl); (focus (intro hg1 w1 hx K hK; have hq1 := hg1; (try simp only [decide_eq_true_eq, decide_eq_false_iff_not, Int.not_lt, Int.not_le] at hq1); (try simp only [hg1, GS2] at hK ⊢); ((with_reducible apply r_move); (focus (first | (simp only [EE]; done) | (simp only [EE]; exact rfl) | exact rfl)); exact hK _ (Ext.refl _)))); (try simp only [SS, Nat.reduceAdd]))
           ((with_reducible apply par_ct); (focus exact rfl); (focus exact rfl); (focus (intro hg1 w1 hx K hK; have hq1 := hg1; (try simp only [decide_eq_true_eq, decide_eq_false_iff_not, Int.not_lt, Int.not_le] at hq1); (try simp only [hg1, GS2] at hK ⊢); ((with_reducible apply r_move); (focus (first | (simp only [EE]; done) | (simp only [EE]; exact rfl) | exact rfl)); exact hK _ (Ext.refl _)))); (try simp only [SS, Nat.reduceAdd]))
           ((with_reducible apply par_ct); (focus exact rfl); (focus exact rfl); (focus (intro hg1 w1 hx K hK; have hq1 := hg1; (try simp only [decide_eq_true_eq, decide_eq_false_iff_not, Int.not_lt, Int.not_le] at hq1); (try simp only [hg1, GS2] at hK ⊢); ((with_reducible apply r_leq); (focus exact rfl); (focus exact rfl); exact hK _ (Ext.refl _)))); (try simp only [SS, Nat.reduceAdd]))
           ((with_reducible apply p_and); (focus exact rfl); (focus exact rfl); (try simp only [SS, Nat.reduceAdd]))
           ((with_reducible apply p_assign); (focus (first | (simp only [EE]; done) | (simp only [EE]; exact rfl) | exact rfl)); (try simp only [SS, Nat.reduceAdd]))
           ((with_reducible apply par_nil); intro v1 hv1 _))
        | ((fail_if_success (with_reducible apply no_region)); (fail_if_success (with_reducible apply no_list)); (fail_if_success (with_reducible apply no_oper)); (fail_if_success (with_reducible apply no_par)); (fail_if_success (with_reducible apply no_loop)); go_step))
  all_goals
    go_ret
    refine ⟨ret_bool ?_, (by (focus (repeat (first | exact xr _ | assumption | (apply xt; assumption)))))⟩
    rw [Bool.eq_iff_iff]; simp [outB]
end Go.Proofs.YtdopillligfdiaaDoor
