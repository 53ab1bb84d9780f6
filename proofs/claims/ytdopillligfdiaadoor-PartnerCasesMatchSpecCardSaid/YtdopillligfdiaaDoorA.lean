/- Contracts of the small functions on agreements: what they return, and that all that was there stays as it was. -/
import Derived.Test.YtdopillligfdiaaDoorA0
namespace Go.Proofs.YtdopillligfdiaaDoor
set_option linter.unusedSimpArgs false
set_option linter.unusedVariables false
open Go.RowKit
set_option maxRecDepth 100000
set_option maxHeartbeats 1000000

theorem within1_any (n a b : Int) (w : World) :
    Calls Tryd.prog 163 #[.int .i64 n, .int .i64 a, .int .i64 b] w fun e w' => e = .returned (.bool (!outB n a b)) ∧ Ext w w' := by
  go_enter Tryd.func163, Tryd.ntmps163
  repeat' (
      first
        | ((with_reducible apply wp_seq_k); intro K hK)
        | (simp only [Exit.then, Exit.inBlock, ↓reduceIte, Nat.reduceEqDiff])
        | with_reducible apply wp_block
        | with_reducible apply wp_skip
        | with_reducible apply wp_exit
        | ((with_reducible apply wp_cond_true); (focus exact rfl))
        | ((with_reducible apply wp_cond_false); (focus exact rfl))
        | (((with_reducible apply wp_cond_split); (focus exact rfl)) <;> intro hb <;> (try simp only [bne_iff_ne, ne_eq, bne_eq_false_iff_eq, beq_iff_eq, beq_eq_false_iff_ne, decide_eq_true_eq, decide_eq_false_iff_not, Bool.not_eq_true', Bool.not_eq_false', Bool.and_eq_true, Bool.or_eq_true, Bool.and_eq_false_iff, Bool.or_eq_false_iff, Int.not_lt, Int.not_le, Bool.not_eq_true, Bool.not_eq_false] at hb) <;> (try (have hbl := And.left hb; have hbr := And.right hb)) <;> (try (have hbll := And.left hbl; have hblr := And.right hbl)) <;> (try first | contradiction | exact (bff hb (by assumption)).elim | exact (bft hb (by assumption)).elim | (exfalso; omega)))
        | ((with_reducible apply (wp_region_lit (id := 0)))
           ((with_reducible apply l_assign); (focus (first | (simp only [EE]; done) | (simp only [EE]; exact rfl) | exact rfl)); (try simp only [SS, Nat.reduceAdd]))
           (with_reducible apply wpList_nil))
        | ((with_reducible apply (wp_region_seq (id := 1)))
           ((with_reducible apply p_move); (focus (first | (simp only [EE]; done) | (simp only [EE]; exact rfl) | exact rfl)); (try simp only [SS, Nat.reduceAdd]))
           ((with_reducible apply p_move); (focus (first | (simp only [EE]; done) | (simp only [EE]; exact rfl) | exact rfl)); (try simp only [SS, Nat.reduceAdd]))
           ((with_reducible apply p_leq); (focus exact rfl); (focus exact rfl); (try simp only [SS, Nat.reduceAdd]))
           ((with_reducible apply p_move); (focus (first | (simp only [EE]; done) | (simp only [EE]; exact rfl) | exact rfl)); (try simp only [SS, Nat.reduceAdd]))
           ((with_reducible apply par_ct); (focus exact rfl); (focus exact rfl); (focus (intro hg1 w1 hx K hK; have hq1 := hg1; (try simp only [decide_eq_true_eq, decide_eq_false_iff_not, Int.not_lt, Int.not_le] at hq1); (try simp only [hg1, GS2] at hK ⊢); ((with_reducible apply r_move); (focus (first | (simp only [EE]; done) | (simp only [EE]; exact rfl) | exact rfl)); exact hK _ (Ext.refl _)))); (try simp only [SS, Nat.reduceAdd]))
           ((with_reducible apply par_ct); (focus exact rfl); (focus exact rfl); (focus (intro hg1 w1 hx K hK; have hq1 := hg1; (try simp only [decide_eq_true_eq, decide_eq_false_iff_not, Int.not_lt, Int.not_le] at hq1); (try simp only [hg1, GS2] at hK ⊢); ((with_reducible apply r_move); (focus (first | (simp only [EE]; done) | (simp only [EE]; exact rfl) | exact rfl)); exact hK _ (Ext.refl _)))); (try simp only [SS, Nat.reduceAdd]))
           ((with_reducible apply par_ct); (focus exact rfl); (focus exact rfl); (focus (intro hg1 w1 hx K hK; have hq1 := hg1; (try simp only [decide_eq_true_eq, decide_eq_false_iff_not, Int.not_lt, Int.not_le] at hq1); (try simp only [hg1, GS2] at hK ⊢); ((with_reducible apply r_leq); (focus exact rfl); (focus exact rfl); exact hK _ (Ext.refl _)))); (try simp only [SS, Nat.reduceAdd]))
           ((with_reducible apply p_and); (focus exact rfl); (focus exact rfl); (try simp only [SS, Nat.reduceAdd]))
           ((with_reducible apply p_assign); (focus (first | (simp only [EE]; done) | (simp only [EE]; exact rfl) | exact rfl)); (try simp only [SS, Nat.reduceAdd]))
           ((with_reducible apply par_nil); intro v1 hv1 _))
        | ((fail_if_success (with_reducible apply no_region)); (fail_if_success (with_reducible apply no_list)); (fail_if_success (with_reducible apply no_oper)); (fail_if_success (with_reducible apply no_par)); (fail_if_success (with_reducible apply no_loop)); go_step))
  all_goals
    go_ret
    refine ⟨ret_bool ?_, (by (focus (repeat (first | exact xr _ | assumption | (apply xt; assumption)))))⟩
    rw [Bool.eq_iff_iff]; simp [outB]
theorem isDay1_any (n : Int) (w : World) :
    Calls Tryd.prog 136 #[.int .i64 n] w fun e w' => e = .returned (.bool (!outB n 1 3652059)) ∧ Ext w w' := by
  go_enter Tryd.func136, Tryd.ntmps136
  repeat' (
      first
        | ((with_reducible apply wp_seq_k); intro K hK)
        | (simp only [Exit.then, Exit.inBlock, ↓reduceIte, Nat.reduceEqDiff])
        | with_reducible apply wp_block
        | with_reducible apply wp_skip
        | with_reducible apply wp_exit
        | ((with_reducible apply wp_cond_true); (focus exact rfl))
        | ((with_reducible apply wp_cond_false); (focus exact rfl))
        | (((with_reducible apply wp_cond_split); (focus exact rfl)) <;> intro hb <;> (try simp only [bne_iff_ne, ne_eq, bne_eq_false_iff_eq, beq_iff_eq, beq_eq_false_iff_ne, decide_eq_true_eq, decide_eq_false_iff_not, Bool.not_eq_true', Bool.not_eq_false', Bool.and_eq_true, Bool.or_eq_true, Bool.and_eq_false_iff, Bool.or_eq_false_iff, Int.not_lt, Int.not_le, Bool.not_eq_true, Bool.not_eq_false] at hb) <;> (try (have hbl := And.left hb; have hbr := And.right hb)) <;> (try (have hbll := And.left hbl; have hblr := And.right hbl)) <;> (try first | contradiction | exact (bff hb (by assumption)).elim | exact (bft hb (by assumption)).elim | (exfalso; omega)))
        | ((with_reducible apply (wp_region_lit (id := 0)))
           ((with_reducible apply l_assign); (focus (first | (simp only [EE]; done) | (simp only [EE]; exact rfl) | exact rfl)); (try simp only [SS, Nat.reduceAdd]))
           (with_reducible apply wpList_nil))
        | ((with_reducible apply (wp_region_lit (id := 1)))
           ((with_reducible apply l_move); (focus (first | (simp only [EE]; done) | (simp only [EE]; exact rfl) | exact rfl)); (try simp only [SS, Nat.reduceAdd]))
           ((with_reducible apply l_enter); (focus (first | (simp only [EE]; done) | (simp only [EE]; exact rfl) | exact rfl)); first | ((with_reducible refine (within1_any _ _ _ _).mono ?_);  rintro e w4 ⟨rfl, hx4⟩; (try simp only []); (try simp only [SS, Nat.reduceAdd])))
           ((with_reducible apply l_assign); (focus (first | (simp only [EE]; done) | (simp only [EE]; exact rfl) | exact rfl)); (try simp only [SS, Nat.reduceAdd]))
           (with_reducible apply wpList_nil))
        | ((fail_if_success (with_reducible apply no_region)); (fail_if_success (with_reducible apply no_list)); (fail_if_success (with_reducible apply no_oper)); (fail_if_success (with_reducible apply no_par)); (fail_if_success (with_reducible apply no_loop)); go_step))
  all_goals
    go_ret
    refine ⟨ret_bool ?_, (by (focus (repeat (first | exact xr _ | assumption | (apply xt; assumption)))))⟩
    rfl
theorem isDay18_any (n : Int) (w : World) :
    Calls Tryd.prog 105 #[.int .i64 n] w fun e w' => e = .returned (.bool (!outB n 1 3652059)) ∧ Ext w w' := by
  go_enter Tryd.func105, Tryd.ntmps105
  repeat' (
      first
        | ((with_reducible apply wp_seq_k); intro K hK)
        | (simp only [Exit.then, Exit.inBlock, ↓reduceIte, Nat.reduceEqDiff])
        | with_reducible apply wp_block
        | with_reducible apply wp_skip
        | with_reducible apply wp_exit
        | ((with_reducible apply wp_cond_true); (focus exact rfl))
        | ((with_reducible apply wp_cond_false); (focus exact rfl))
        | (((with_reducible apply wp_cond_split); (focus exact rfl)) <;> intro hb <;> (try simp only [bne_iff_ne, ne_eq, bne_eq_false_iff_eq, beq_iff_eq, beq_eq_false_iff_ne, decide_eq_true_eq, decide_eq_false_iff_not, Bool.not_eq_true', Bool.not_eq_false', Bool.and_eq_true, Bool.or_eq_true, Bool.and_eq_false_iff, Bool.or_eq_false_iff, Int.not_lt, Int.not_le, Bool.not_eq_true, Bool.not_eq_false] at hb) <;> (try (have hbl := And.left hb; have hbr := And.right hb)) <;> (try (have hbll := And.left hbl; have hblr := And.right hbl)) <;> (try first | contradiction | exact (bff hb (by assumption)).elim | exact (bft hb (by assumption)).elim | (exfalso; omega)))
        | ((with_reducible apply (wp_region_lit (id := 0)))
           ((with_reducible apply l_assign); (focus (first | (simp only [EE]; done) | (simp only [EE]; exact rfl) | exact rfl)); (try simp only [SS, Nat.reduceAdd]))
           (with_reducible apply wpList_nil))
        | ((with_reducible apply (wp_region_lit (id := 1)))
           ((with_reducible apply l_move); (focus (first | (simp only [EE]; done) | (simp only [EE]; exact rfl) | exact rfl)); (try simp only [SS, Nat.reduceAdd]))
           ((with_reducible apply l_enter); (focus (first | (simp only [EE]; done) | (simp only [EE]; exact rfl) | exact rfl)); first | ((with_reducible refine (isDay1_any _ _).mono ?_);  rintro e w4 ⟨rfl, hx4⟩; (try simp only []); (try simp only [SS, Nat.reduceAdd])))
           ((with_reducible apply l_assign); (focus (first | (simp only [EE]; done) | (simp only [EE]; exact rfl) | exact rfl)); (try simp only [SS, Nat.reduceAdd]))
           (with_reducible apply wpList_nil))
        | ((fail_if_success (with_reducible apply no_region)); (fail_if_success (with_reducible apply no_list)); (fail_if_success (with_reducible apply no_oper)); (fail_if_success (with_reducible apply no_par)); (fail_if_success (with_reducible apply no_loop)); go_step))
  all_goals
    go_ret
    refine ⟨ret_bool ?_, (by (focus (repeat (first | exact xr _ | assumption | (apply xt; assumption)))))⟩
    rfl
theorem flagNumber_any (b : Bool) (w : World) :
    Calls Tryd.prog 96 #[.bool b] w fun e w' => e = .returned (.int .i64 (flagN b)) ∧ Ext w w' := by
  go_enter Tryd.func96, Tryd.ntmps96
  repeat' (
      first
        | ((with_reducible apply wp_seq_k); intro K hK)
        | (simp only [Exit.then, Exit.inBlock, ↓reduceIte, Nat.reduceEqDiff])
        | with_reducible apply wp_block
        | with_reducible apply wp_skip
        | with_reducible apply wp_exit
        | ((with_reducible apply wp_cond_true); (focus exact rfl))
        | ((with_reducible apply wp_cond_false); (focus exact rfl))
        | (((with_reducible apply wp_cond_split); (focus exact rfl)) <;> intro hb <;> (try simp only [bne_iff_ne, ne_eq, bne_eq_false_iff_eq, beq_iff_eq, beq_eq_false_iff_ne, decide_eq_true_eq, decide_eq_false_iff_not, Bool.not_eq_true', Bool.not_eq_false', Bool.and_eq_true, Bool.or_eq_true, Bool.and_eq_false_iff, Bool.or_eq_false_iff, Int.not_lt, Int.not_le, Bool.not_eq_true, Bool.not_eq_false] at hb) <;> (try (have hbl := And.left hb; have hbr := And.right hb)) <;> (try (have hbll := And.left hbl; have hblr := And.right hbl)) <;> (try first | contradiction | exact (bff hb (by assumption)).elim | exact (bft hb (by assumption)).elim | (exfalso; omega)))
        | ((with_reducible apply (wp_region_lit (id := 0)))
           ((with_reducible apply l_assign); (focus (first | (simp only [EE]; done) | (simp only [EE]; exact rfl) | exact rfl)); (try simp only [SS, Nat.reduceAdd]))
           (with_reducible apply wpList_nil))
        | ((with_reducible apply (wp_region_lit (id := 1)))
           ((with_reducible apply l_move); (focus (first | (simp only [EE]; done) | (simp only [EE]; exact rfl) | exact rfl)); (try simp only [SS, Nat.reduceAdd]))
           (with_reducible apply wpList_nil))
        | ((with_reducible apply (wp_region_lit (id := 2)))
           ((with_reducible apply l_assign); (focus (first | (simp only [EE]; done) | (simp only [EE]; exact rfl) | exact rfl)); (try simp only [SS, Nat.reduceAdd]))
           (with_reducible apply wpList_nil))
        | ((with_reducible apply (wp_region_lit (id := 3)))
           ((with_reducible apply l_assign); (focus (first | (simp only [EE]; done) | (simp only [EE]; exact rfl) | exact rfl)); (try simp only [SS, Nat.reduceAdd]))
           (with_reducible apply wpList_nil))
        | ((fail_if_success (with_reducible apply no_region)); (fail_if_success (with_reducible apply no_list)); (fail_if_success (with_reducible apply no_oper)); (fail_if_success (with_reducible apply no_par)); (fail_if_success (with_reducible apply no_loop)); go_step))
  all_goals
    go_ret
    refine ⟨ret_int ?_, (by (focus (repeat (first | exact xr _ | assumption | (apply xt; assumption)))))⟩
    simp [flagN, *]
theorem rank_any (a : Agr) (w : World) :
    Calls Tryd.prog 106 #[a.v] w fun e w' => e = .returned (.int .i64 (rankN a)) ∧ Ext w w' := by
  go_enter Tryd.func106, Tryd.ntmps106
  repeat' (
      first
        | ((with_reducible apply wp_seq_k); intro K hK)
        | (simp only [Exit.then, Exit.inBlock, ↓reduceIte, Nat.reduceEqDiff])
        | with_reducible apply wp_block
        | with_reducible apply wp_skip
        | with_reducible apply wp_exit
        | ((with_reducible apply wp_cond_true); (focus exact rfl))
        | ((with_reducible apply wp_cond_false); (focus exact rfl))
        | (((with_reducible apply wp_cond_split); (focus exact rfl)) <;> intro hb <;> (try simp only [bne_iff_ne, ne_eq, bne_eq_false_iff_eq, beq_iff_eq, beq_eq_false_iff_ne, decide_eq_true_eq, decide_eq_false_iff_not, Bool.not_eq_true', Bool.not_eq_false', Bool.and_eq_true, Bool.or_eq_true, Bool.and_eq_false_iff, Bool.or_eq_false_iff, Int.not_lt, Int.not_le, Bool.not_eq_true, Bool.not_eq_false] at hb) <;> (try (have hbl := And.left hb; have hbr := And.right hb)) <;> (try (have hbll := And.left hbl; have hblr := And.right hbl)) <;> (try first | contradiction | exact (bff hb (by assumption)).elim | exact (bft hb (by assumption)).elim | (exfalso; omega)))
        | ((with_reducible apply (wp_region_lit (id := 0)))
           ((with_reducible apply l_boxN); (focus exact rfl); intro g1 w1 hb1 hx1 hg1; (try simp only [SS, Nat.reduceAdd]))
           ((with_reducible apply l_assign); (focus (first | (simp only [EE]; done) | (simp only [EE]; exact rfl) | exact rfl)); (try simp only [SS, Nat.reduceAdd]))
           (with_reducible apply wpList_nil))
        | ((with_reducible apply (wp_region_lit (id := 1)))
           ((with_reducible apply l_fieldAddr); (focus exact rfl); (try simp only [SS, Nat.reduceAdd]))
           ((with_reducible apply l_load1); (focus exact rfl); (focus (first | assumption | ((apply cx); (focus assumption); (focus (repeat (first | exact xr _ | assumption | (apply xt; assumption)))); done) | ((first | (apply cb; assumption) | (apply c0; assumption) | (apply cr; assumption) | (apply cp; assumption)); (focus (repeat (first | exact xr _ | assumption | (apply xt; assumption)))); exact rfl))); (try simp only [SS, Nat.reduceAdd]))
           ((with_reducible apply l_sneq); (focus exact rfl); (focus exact rfl); (try simp only [SS, Nat.reduceAdd]))
           ((with_reducible apply l_assign); (focus (first | (simp only [EE]; done) | (simp only [EE]; exact rfl) | exact rfl)); (try simp only [SS, Nat.reduceAdd]))
           (with_reducible apply wpList_nil))
        | ((with_reducible apply (wp_region_lit (id := 2)))
           ((with_reducible apply l_assign); (focus (first | (simp only [EE]; done) | (simp only [EE]; exact rfl) | exact rfl)); (try simp only [SS, Nat.reduceAdd]))
           (with_reducible apply wpList_nil))
        | ((with_reducible apply (wp_region_lit (id := 3)))
           ((with_reducible apply l_fieldAddr); (focus exact rfl); (try simp only [SS, Nat.reduceAdd]))
           ((with_reducible apply l_load1); (focus exact rfl); (focus (first | assumption | ((apply cx); (focus assumption); (focus (repeat (first | exact xr _ | assumption | (apply xt; assumption)))); done) | ((first | (apply cb; assumption) | (apply c0; assumption) | (apply cr; assumption) | (apply cp; assumption)); (focus (repeat (first | exact xr _ | assumption | (apply xt; assumption)))); exact rfl))); (try simp only [SS, Nat.reduceAdd]))
           ((with_reducible apply l_sneq); (focus exact rfl); (focus exact rfl); (try simp only [SS, Nat.reduceAdd]))
           ((with_reducible apply l_assign); (focus (first | (simp only [EE]; done) | (simp only [EE]; exact rfl) | exact rfl)); (try simp only [SS, Nat.reduceAdd]))
           (with_reducible apply wpList_nil))
        | ((with_reducible apply (wp_region_lit (id := 4)))
           ((with_reducible apply l_assign); (focus (first | (simp only [EE]; done) | (simp only [EE]; exact rfl) | exact rfl)); (try simp only [SS, Nat.reduceAdd]))
           (with_reducible apply wpList_nil))
        | ((with_reducible apply (wp_region_lit (id := 5)))
           ((with_reducible apply l_assign); (focus (first | (simp only [EE]; done) | (simp only [EE]; exact rfl) | exact rfl)); (try simp only [SS, Nat.reduceAdd]))
           (with_reducible apply wpList_nil))
        | ((fail_if_success (with_reducible apply no_region)); (fail_if_success (with_reducible apply no_list)); (fail_if_success (with_reducible apply no_oper)); (fail_if_success (with_reducible apply no_par)); (fail_if_success (with_reducible apply no_loop)); go_step))
  all_goals
    go_ret
    refine ⟨ret_int ?_, (by (focus (repeat (first | exact xr _ | assumption | (apply xt; assumption)))))⟩
    simp_all [rankN]
theorem alike_any (a : Agr) (c : Cas) (w : World) :
    Calls Tryd.prog 103 #[a.v, c.v] w fun e w' => e = .returned (.bool (alikeB a c)) ∧ Ext w w' := by
  go_enter Tryd.func103, Tryd.ntmps103
  repeat' (
      first
        | ((with_reducible apply wp_seq_k); intro K hK)
        | (simp only [Exit.then, Exit.inBlock, ↓reduceIte, Nat.reduceEqDiff])
        | with_reducible apply wp_block
        | with_reducible apply wp_skip
        | with_reducible apply wp_exit
        | ((with_reducible apply wp_cond_true); (focus exact rfl))
        | ((with_reducible apply wp_cond_false); (focus exact rfl))
        | (((with_reducible apply wp_cond_split); (focus exact rfl)) <;> intro hb <;> (try simp only [bne_iff_ne, ne_eq, bne_eq_false_iff_eq, beq_iff_eq, beq_eq_false_iff_ne, decide_eq_true_eq, decide_eq_false_iff_not, Bool.not_eq_true', Bool.not_eq_false', Bool.and_eq_true, Bool.or_eq_true, Bool.and_eq_false_iff, Bool.or_eq_false_iff, Int.not_lt, Int.not_le, Bool.not_eq_true, Bool.not_eq_false] at hb) <;> (try (have hbl := And.left hb; have hbr := And.right hb)) <;> (try (have hbll := And.left hbl; have hblr := And.right hbl)) <;> (try first | contradiction | exact (bff hb (by assumption)).elim | exact (bft hb (by assumption)).elim | (exfalso; omega)))
        | ((with_reducible apply (wp_region_lit (id := 0)))
           ((with_reducible apply l_boxN); (focus exact rfl); intro g2 w2 hb2 hx2 hg2; (try simp only [SS, Nat.reduceAdd]))
           ((with_reducible apply l_boxN); (focus exact rfl); intro g3 w3 hb3 hx3 hg3; (try simp only [SS, Nat.reduceAdd]))
           ((with_reducible apply l_assign); (focus (first | (simp only [EE]; done) | (simp only [EE]; exact rfl) | exact rfl)); (try simp only [SS, Nat.reduceAdd]))
           (with_reducible apply wpList_nil))
        | ((with_reducible apply (wp_region_seq (id := 1)))
           ((with_reducible apply p_fieldAddr); (focus exact rfl); (try simp only [SS, Nat.reduceAdd]))
           ((with_reducible apply p_load1); (focus exact rfl); (focus (first | assumption | ((apply cx); (focus assumption); (focus (repeat (first | exact xr _ | assumption | (apply xt; assumption)))); done) | ((first | (apply cb; assumption) | (apply c0; assumption) | (apply cr; assumption) | (apply cp; assumption)); (focus (repeat (first | exact xr _ | assumption | (apply xt; assumption)))); exact rfl))); (try simp only [SS, Nat.reduceAdd]))
           ((with_reducible apply p_fieldAddr); (focus exact rfl); (try simp only [SS, Nat.reduceAdd]))
           ((with_reducible apply p_load1); (focus exact rfl); (focus (first | assumption | ((apply cx); (focus assumption); (focus (repeat (first | exact xr _ | assumption | (apply xt; assumption)))); done) | ((first | (apply cb; assumption) | (apply c0; assumption) | (apply cr; assumption) | (apply cp; assumption)); (focus (repeat (first | exact xr _ | assumption | (apply xt; assumption)))); exact rfl))); (try simp only [SS, Nat.reduceAdd]))
           ((with_reducible apply p_seql); (focus exact rfl); (focus exact rfl); (try simp only [SS, Nat.reduceAdd]))
           ((with_reducible apply p_move); (focus (first | (simp only [EE]; done) | (simp only [EE]; exact rfl) | exact rfl)); (try simp only [SS, Nat.reduceAdd]))
           ((with_reducible apply par_ct); (focus exact rfl); (focus exact rfl); (focus (intro hg1 w1 hx K hK; have hq1 := hg1; (try simp only [decide_eq_true_eq, decide_eq_false_iff_not, Int.not_lt, Int.not_le] at hq1); (try simp only [hg1, GS2] at hK ⊢); ((with_reducible apply r_fieldAddr); (focus exact rfl); exact hK _ (Ext.refl _)))); (try simp only [SS, Nat.reduceAdd]))
           ((with_reducible apply par_ct); (focus exact rfl); (focus exact rfl); (focus (intro hg1 w1 hx K hK; have hq1 := hg1; (try simp only [decide_eq_true_eq, decide_eq_false_iff_not, Int.not_lt, Int.not_le] at hq1); (try simp only [hg1, GS2] at hK ⊢); ((with_reducible apply r_load1); (focus exact rfl); (focus (first | assumption | ((apply cx); (focus assumption); (focus (repeat (first | exact xr _ | assumption | (apply xt; assumption)))); done) | ((first | (apply cb; assumption) | (apply c0; assumption) | (apply cr; assumption) | (apply cp; assumption)); (focus (repeat (first | exact xr _ | assumption | (apply xt; assumption)))); exact rfl))); exact hK _ (Ext.refl _)))); (try simp only [SS, Nat.reduceAdd]))
           ((with_reducible apply par_ct); (focus exact rfl); (focus exact rfl); (focus (intro hg1 w1 hx K hK; have hq1 := hg1; (try simp only [decide_eq_true_eq, decide_eq_false_iff_not, Int.not_lt, Int.not_le] at hq1); (try simp only [hg1, GS2] at hK ⊢); ((with_reducible apply r_fieldAddr); (focus exact rfl); exact hK _ (Ext.refl _)))); (try simp only [SS, Nat.reduceAdd]))
           ((with_reducible apply par_ct); (focus exact rfl); (focus exact rfl); (focus (intro hg1 w1 hx K hK; have hq1 := hg1; (try simp only [decide_eq_true_eq, decide_eq_false_iff_not, Int.not_lt, Int.not_le] at hq1); (try simp only [hg1, GS2] at hK ⊢); ((with_reducible apply r_load1); (focus exact rfl); (focus (first | assumption | ((apply cx); (focus assumption); (focus (repeat (first | exact xr _ | assumption | (apply xt; assumption)))); done) | ((first | (apply cb; assumption) | (apply c0; assumption) | (apply cr; assumption) | (apply cp; assumption)); (focus (repeat (first | exact xr _ | assumption | (apply xt; assumption)))); exact rfl))); exact hK _ (Ext.refl _)))); (try simp only [SS, Nat.reduceAdd]))
           ((with_reducible apply par_ct); (focus exact rfl); (focus exact rfl); (focus (intro hg1 w1 hx K hK; have hq1 := hg1; (try simp only [decide_eq_true_eq, decide_eq_false_iff_not, Int.not_lt, Int.not_le] at hq1); (try simp only [hg1, GS2] at hK ⊢); ((with_reducible apply r_seql); (focus exact rfl); (focus exact rfl); exact hK _ (Ext.refl _)))); (try simp only [SS, Nat.reduceAdd]))
           ((with_reducible apply p_and); (focus exact rfl); (focus exact rfl); (try simp only [SS, Nat.reduceAdd]))
           ((with_reducible apply p_move); (focus (first | (simp only [EE]; done) | (simp only [EE]; exact rfl) | exact rfl)); (try simp only [SS, Nat.reduceAdd]))
           ((with_reducible apply par_ct); (focus exact rfl); (focus exact rfl); (focus (intro hg1 w1 hx K hK; have hq1 := hg1; (try simp only [decide_eq_true_eq, decide_eq_false_iff_not, Int.not_lt, Int.not_le] at hq1); (try simp only [hg1, GS2] at hK ⊢); ((with_reducible apply r_fieldAddr); (focus exact rfl); exact hK _ (Ext.refl _)))); (try simp only [SS, Nat.reduceAdd]))
           ((with_reducible apply par_ct); (focus exact rfl); (focus exact rfl); (focus (intro hg1 w1 hx K hK; have hq1 := hg1; (try simp only [decide_eq_true_eq, decide_eq_false_iff_not, Int.not_lt, Int.not_le] at hq1); (try simp only [hg1, GS2] at hK ⊢); ((with_reducible apply r_load1); (focus exact rfl); (focus (first | assumption | ((apply cx); (focus assumption); (focus (repeat (first | exact xr _ | assumption | (apply xt; assumption)))); done) | ((first | (apply cb; assumption) | (apply c0; assumption) | (apply cr; assumption) | (apply cp; assumption)); (focus (repeat (first | exact xr _ | assumption | (apply xt; assumption)))); exact rfl))); exact hK _ (Ext.refl _)))); (try simp only [SS, Nat.reduceAdd]))
           ((with_reducible apply par_ct); (focus exact rfl); (focus exact rfl); (focus (intro hg1 w1 hx K hK; have hq1 := hg1; (try simp only [decide_eq_true_eq, decide_eq_false_iff_not, Int.not_lt, Int.not_le] at hq1); (try simp only [hg1, GS2] at hK ⊢); ((with_reducible apply r_seql); (focus exact rfl); (focus exact rfl); exact hK _ (Ext.refl _)))); (try simp only [SS, Nat.reduceAdd]))
           ((with_reducible apply par_ct); (focus exact rfl); (focus exact rfl); (focus (intro hg1 w1 hx K hK; have hq1 := hg1; (try simp only [decide_eq_true_eq, decide_eq_false_iff_not, Int.not_lt, Int.not_le] at hq1); (try simp only [hg1, GS2] at hK ⊢); ((with_reducible apply r_move); (focus (first | (simp only [EE]; done) | (simp only [EE]; exact rfl) | exact rfl)); exact hK _ (Ext.refl _)))); (try simp only [SS, Nat.reduceAdd]))
           ((with_reducible apply par_gf); (focus exact rfl); (focus exact rfl); (focus (intro hg1 hg2 w1 hx K hK; have hq1 := hg1; have hq2 := hg2; (try simp only [decide_eq_true_eq, decide_eq_false_iff_not, Int.not_lt, Int.not_le, Bool.and_eq_true, Bool.not_eq_true', Bool.not_eq_false'] at hq1); (try simp only [decide_eq_true_eq, decide_eq_false_iff_not, Int.not_lt, Int.not_le] at hq2); (try simp only [hg1, GS2] at hK ⊢); (try simp only [hg2, GS2] at hK ⊢); ((with_reducible apply r_fieldAddr); (focus exact rfl); exact hK _ (Ext.refl _)))); (try simp only [SS, Nat.reduceAdd]))
           ((with_reducible apply par_gf); (focus exact rfl); (focus exact rfl); (focus (intro hg1 hg2 w1 hx K hK; have hq1 := hg1; have hq2 := hg2; (try simp only [decide_eq_true_eq, decide_eq_false_iff_not, Int.not_lt, Int.not_le, Bool.and_eq_true, Bool.not_eq_true', Bool.not_eq_false'] at hq1); (try simp only [decide_eq_true_eq, decide_eq_false_iff_not, Int.not_lt, Int.not_le] at hq2); (try simp only [hg1, GS2] at hK ⊢); (try simp only [hg2, GS2] at hK ⊢); ((with_reducible apply r_load1); (focus exact rfl); (focus (first | assumption | ((apply cx); (focus assumption); (focus (repeat (first | exact xr _ | assumption | (apply xt; assumption)))); done) | ((first | (apply cb; assumption) | (apply c0; assumption) | (apply cr; assumption) | (apply cp; assumption)); (focus (repeat (first | exact xr _ | assumption | (apply xt; assumption)))); exact rfl))); exact hK _ (Ext.refl _)))); (try simp only [SS, Nat.reduceAdd]))
           ((with_reducible apply par_gf); (focus exact rfl); (focus exact rfl); (focus (intro hg1 hg2 w1 hx K hK; have hq1 := hg1; have hq2 := hg2; (try simp only [decide_eq_true_eq, decide_eq_false_iff_not, Int.not_lt, Int.not_le, Bool.and_eq_true, Bool.not_eq_true', Bool.not_eq_false'] at hq1); (try simp only [decide_eq_true_eq, decide_eq_false_iff_not, Int.not_lt, Int.not_le] at hq2); (try simp only [hg1, GS2] at hK ⊢); (try simp only [hg2, GS2] at hK ⊢); ((with_reducible apply r_fieldAddr); (focus exact rfl); exact hK _ (Ext.refl _)))); (try simp only [SS, Nat.reduceAdd]))
           ((with_reducible apply par_gf); (focus exact rfl); (focus exact rfl); (focus (intro hg1 hg2 w1 hx K hK; have hq1 := hg1; have hq2 := hg2; (try simp only [decide_eq_true_eq, decide_eq_false_iff_not, Int.not_lt, Int.not_le, Bool.and_eq_true, Bool.not_eq_true', Bool.not_eq_false'] at hq1); (try simp only [decide_eq_true_eq, decide_eq_false_iff_not, Int.not_lt, Int.not_le] at hq2); (try simp only [hg1, GS2] at hK ⊢); (try simp only [hg2, GS2] at hK ⊢); ((with_reducible apply r_load1); (focus exact rfl); (focus (first | assumption | ((apply cx); (focus assumption); (focus (repeat (first | exact xr _ | assumption | (apply xt; assumption)))); done) | ((first | (apply cb; assumption) | (apply c0; assumption) | (apply cr; assumption) | (apply cp; assumption)); (focus (repeat (first | exact xr _ | assumption | (apply xt; assumption)))); exact rfl))); exact hK _ (Ext.refl _)))); (try simp only [SS, Nat.reduceAdd]))
           ((with_reducible apply par_gf); (focus exact rfl); (focus exact rfl); (focus (intro hg1 hg2 w1 hx K hK; have hq1 := hg1; have hq2 := hg2; (try simp only [decide_eq_true_eq, decide_eq_false_iff_not, Int.not_lt, Int.not_le, Bool.and_eq_true, Bool.not_eq_true', Bool.not_eq_false'] at hq1); (try simp only [decide_eq_true_eq, decide_eq_false_iff_not, Int.not_lt, Int.not_le] at hq2); (try simp only [hg1, GS2] at hK ⊢); (try simp only [hg2, GS2] at hK ⊢); ((with_reducible apply r_seql); (focus exact rfl); (focus exact rfl); exact hK _ (Ext.refl _)))); (try simp only [SS, Nat.reduceAdd]))
           ((with_reducible apply par_ct); (focus exact rfl); (focus exact rfl); (focus (intro hg1 w1 hx K hK; have hq1 := hg1; (try simp only [decide_eq_true_eq, decide_eq_false_iff_not, Int.not_lt, Int.not_le] at hq1); (try simp only [hg1, GS2] at hK ⊢); (refine wp_or rfl rfl rfl ?_; exact hK _ (Ext.refl _)))); (try simp only [SS, Nat.reduceAdd]))
           ((with_reducible apply p_and); (focus exact rfl); (focus exact rfl); (try simp only [SS, Nat.reduceAdd]))
           ((with_reducible apply p_move); (focus (first | (simp only [EE]; done) | (simp only [EE]; exact rfl) | exact rfl)); (try simp only [SS, Nat.reduceAdd]))
           ((with_reducible apply par_ct); (focus exact rfl); (focus exact rfl); (focus (intro hg1 w1 hx K hK; have hq1 := hg1; (try simp only [decide_eq_true_eq, decide_eq_false_iff_not, Int.not_lt, Int.not_le] at hq1); (try simp only [hg1, GS2] at hK ⊢); ((with_reducible apply r_fieldAddr); (focus exact rfl); exact hK _ (Ext.refl _)))); (try simp only [SS, Nat.reduceAdd]))
           ((with_reducible apply par_ct); (focus exact rfl); (focus exact rfl); (focus (intro hg1 w1 hx K hK; have hq1 := hg1; (try simp only [decide_eq_true_eq, decide_eq_false_iff_not, Int.not_lt, Int.not_le] at hq1); (try simp only [hg1, GS2] at hK ⊢); ((with_reducible apply r_load1); (focus exact rfl); (focus (first | assumption | ((apply cx); (focus assumption); (focus (repeat (first | exact xr _ | assumption | (apply xt; assumption)))); done) | ((first | (apply cb; assumption) | (apply c0; assumption) | (apply cr; assumption) | (apply cp; assumption)); (focus (repeat (first | exact xr _ | assumption | (apply xt; assumption)))); exact rfl))); exact hK _ (Ext.refl _)))); (try simp only [SS, Nat.reduceAdd]))
           ((with_reducible apply par_ct); (focus exact rfl); (focus exact rfl); (focus (intro hg1 w1 hx K hK; have hq1 := hg1; (try simp only [decide_eq_true_eq, decide_eq_false_iff_not, Int.not_lt, Int.not_le] at hq1); (try simp only [hg1, GS2] at hK ⊢); ((with_reducible apply r_seql); (focus exact rfl); (focus exact rfl); exact hK _ (Ext.refl _)))); (try simp only [SS, Nat.reduceAdd]))
           ((with_reducible apply par_ct); (focus exact rfl); (focus exact rfl); (focus (intro hg1 w1 hx K hK; have hq1 := hg1; (try simp only [decide_eq_true_eq, decide_eq_false_iff_not, Int.not_lt, Int.not_le] at hq1); (try simp only [hg1, GS2] at hK ⊢); ((with_reducible apply r_move); (focus (first | (simp only [EE]; done) | (simp only [EE]; exact rfl) | exact rfl)); exact hK _ (Ext.refl _)))); (try simp only [SS, Nat.reduceAdd]))
           ((with_reducible apply par_gf); (focus exact rfl); (focus exact rfl); (focus (intro hg1 hg2 w1 hx K hK; have hq1 := hg1; have hq2 := hg2; (try simp only [decide_eq_true_eq, decide_eq_false_iff_not, Int.not_lt, Int.not_le, Bool.and_eq_true, Bool.not_eq_true', Bool.not_eq_false'] at hq1); (try simp only [decide_eq_true_eq, decide_eq_false_iff_not, Int.not_lt, Int.not_le] at hq2); (try simp only [hg1, GS2] at hK ⊢); (try simp only [hg2, GS2] at hK ⊢); ((with_reducible apply r_fieldAddr); (focus exact rfl); exact hK _ (Ext.refl _)))); (try simp only [SS, Nat.reduceAdd]))
           ((with_reducible apply par_gf); (focus exact rfl); (focus exact rfl); (focus (intro hg1 hg2 w1 hx K hK; have hq1 := hg1; have hq2 := hg2; (try simp only [decide_eq_true_eq, decide_eq_false_iff_not, Int.not_lt, Int.not_le, Bool.and_eq_true, Bool.not_eq_true', Bool.not_eq_false'] at hq1); (try simp only [decide_eq_true_eq, decide_eq_false_iff_not, Int.not_lt, Int.not_le] at hq2); (try simp only [hg1, GS2] at hK ⊢); (try simp only [hg2, GS2] at hK ⊢); ((with_reducible apply r_load1); (focus exact rfl); (focus (first | assumption | ((apply cx); (focus assumption); (focus (repeat (first | exact xr _ | assumption | (apply xt; assumption)))); done) | ((first | (apply cb; assumption) | (apply c0; assumption) | (apply cr; assumption) | (apply cp; assumption)); (focus (repeat (first | exact xr _ | assumption | (apply xt; assumption)))); exact rfl))); exact hK _ (Ext.refl _)))); (try simp only [SS, Nat.reduceAdd]))
           ((with_reducible apply par_gf); (focus exact rfl); (focus exact rfl); (focus (intro hg1 hg2 w1 hx K hK; have hq1 := hg1; have hq2 := hg2; (try simp only [decide_eq_true_eq, decide_eq_false_iff_not, Int.not_lt, Int.not_le, Bool.and_eq_true, Bool.not_eq_true', Bool.not_eq_false'] at hq1); (try simp only [decide_eq_true_eq, decide_eq_false_iff_not, Int.not_lt, Int.not_le] at hq2); (try simp only [hg1, GS2] at hK ⊢); (try simp only [hg2, GS2] at hK ⊢); ((with_reducible apply r_fieldAddr); (focus exact rfl); exact hK _ (Ext.refl _)))); (try simp only [SS, Nat.reduceAdd]))
           ((with_reducible apply par_gf); (focus exact rfl); (focus exact rfl); (focus (intro hg1 hg2 w1 hx K hK; have hq1 := hg1; have hq2 := hg2; (try simp only [decide_eq_true_eq, decide_eq_false_iff_not, Int.not_lt, Int.not_le, Bool.and_eq_true, Bool.not_eq_true', Bool.not_eq_false'] at hq1); (try simp only [decide_eq_true_eq, decide_eq_false_iff_not, Int.not_lt, Int.not_le] at hq2); (try simp only [hg1, GS2] at hK ⊢); (try simp only [hg2, GS2] at hK ⊢); ((with_reducible apply r_load1); (focus exact rfl); (focus (first | assumption | ((apply cx); (focus assumption); (focus (repeat (first | exact xr _ | assumption | (apply xt; assumption)))); done) | ((first | (apply cb; assumption) | (apply c0; assumption) | (apply cr; assumption) | (apply cp; assumption)); (focus (repeat (first | exact xr _ | assumption | (apply xt; assumption)))); exact rfl))); exact hK _ (Ext.refl _)))); (try simp only [SS, Nat.reduceAdd]))
           ((with_reducible apply par_gf); (focus exact rfl); (focus exact rfl); (focus (intro hg1 hg2 w1 hx K hK; have hq1 := hg1; have hq2 := hg2; (try simp only [decide_eq_true_eq, decide_eq_false_iff_not, Int.not_lt, Int.not_le, Bool.and_eq_true, Bool.not_eq_true', Bool.not_eq_false'] at hq1); (try simp only [decide_eq_true_eq, decide_eq_false_iff_not, Int.not_lt, Int.not_le] at hq2); (try simp only [hg1, GS2] at hK ⊢); (try simp only [hg2, GS2] at hK ⊢); ((with_reducible apply r_seql); (focus exact rfl); (focus exact rfl); exact hK _ (Ext.refl _)))); (try simp only [SS, Nat.reduceAdd]))
           ((with_reducible apply par_ct); (focus exact rfl); (focus exact rfl); (focus (intro hg1 w1 hx K hK; have hq1 := hg1; (try simp only [decide_eq_true_eq, decide_eq_false_iff_not, Int.not_lt, Int.not_le] at hq1); (try simp only [hg1, GS2] at hK ⊢); (refine wp_or rfl rfl rfl ?_; exact hK _ (Ext.refl _)))); (try simp only [SS, Nat.reduceAdd]))
           ((with_reducible apply p_and); (focus exact rfl); (focus exact rfl); (try simp only [SS, Nat.reduceAdd]))
           ((with_reducible apply p_move); (focus (first | (simp only [EE]; done) | (simp only [EE]; exact rfl) | exact rfl)); (try simp only [SS, Nat.reduceAdd]))
           ((with_reducible apply par_ct); (focus exact rfl); (focus exact rfl); (focus (intro hg1 w1 hx K hK; have hq1 := hg1; (try simp only [decide_eq_true_eq, decide_eq_false_iff_not, Int.not_lt, Int.not_le] at hq1); (try simp only [hg1, GS2] at hK ⊢); ((with_reducible apply r_fieldAddr); (focus exact rfl); exact hK _ (Ext.refl _)))); (try simp only [SS, Nat.reduceAdd]))
           ((with_reducible apply par_ct); (focus exact rfl); (focus exact rfl); (focus (intro hg1 w1 hx K hK; have hq1 := hg1; (try simp only [decide_eq_true_eq, decide_eq_false_iff_not, Int.not_lt, Int.not_le] at hq1); (try simp only [hg1, GS2] at hK ⊢); ((with_reducible apply r_load1); (focus exact rfl); (focus (first | assumption | ((apply cx); (focus assumption); (focus (repeat (first | exact xr _ | assumption | (apply xt; assumption)))); done) | ((first | (apply cb; assumption) | (apply c0; assumption) | (apply cr; assumption) | (apply cp; assumption)); (focus (repeat (first | exact xr _ | assumption | (apply xt; assumption)))); exact rfl))); exact hK _ (Ext.refl _)))); (try simp only [SS, Nat.reduceAdd]))
           ((with_reducible apply par_ct); (focus exact rfl); (focus exact rfl); (focus (intro hg1 w1 hx K hK; have hq1 := hg1; (try simp only [decide_eq_true_eq, decide_eq_false_iff_not, Int.not_lt, Int.not_le] at hq1); (try simp only [hg1, GS2] at hK ⊢); ((with_reducible apply r_fieldAddr); (focus exact rfl); exact hK _ (Ext.refl _)))); (try simp only [SS, Nat.reduceAdd]))
           ((with_reducible apply par_ct); (focus exact rfl); (focus exact rfl); (focus (intro hg1 w1 hx K hK; have hq1 := hg1; (try simp only [decide_eq_true_eq, decide_eq_false_iff_not, Int.not_lt, Int.not_le] at hq1); (try simp only [hg1, GS2] at hK ⊢); ((with_reducible apply r_load1); (focus exact rfl); (focus (first | assumption | ((apply cx); (focus assumption); (focus (repeat (first | exact xr _ | assumption | (apply xt; assumption)))); done) | ((first | (apply cb; assumption) | (apply c0; assumption) | (apply cr; assumption) | (apply cp; assumption)); (focus (repeat (first | exact xr _ | assumption | (apply xt; assumption)))); exact rfl))); exact hK _ (Ext.refl _)))); (try simp only [SS, Nat.reduceAdd]))
           ((with_reducible apply par_ct); (focus exact rfl); (focus exact rfl); (focus (intro hg1 w1 hx K hK; have hq1 := hg1; (try simp only [decide_eq_true_eq, decide_eq_false_iff_not, Int.not_lt, Int.not_le] at hq1); (try simp only [hg1, GS2] at hK ⊢); ((with_reducible apply r_boolEq); (focus exact rfl); (focus exact rfl); exact hK _ (Ext.refl _)))); (try simp only [SS, Nat.reduceAdd]))
           ((with_reducible apply p_and); (focus exact rfl); (focus exact rfl); (try simp only [SS, Nat.reduceAdd]))
           ((with_reducible apply p_assign); (focus (first | (simp only [EE]; done) | (simp only [EE]; exact rfl) | exact rfl)); (try simp only [SS, Nat.reduceAdd]))
           ((with_reducible apply par_nil); intro v1 hv1 _))
        | ((fail_if_success (with_reducible apply no_region)); (fail_if_success (with_reducible apply no_list)); (fail_if_success (with_reducible apply no_oper)); (fail_if_success (with_reducible apply no_par)); (fail_if_success (with_reducible apply no_loop)); go_step))
  all_goals
    go_ret
    refine ⟨ret_bool ?_, (by (focus (repeat (first | exact xr _ | assumption | (apply xt; assumption)))))⟩
    simp_all [alikeB]
theorem applies_any (a : Agr) (c : Cas) (w : World) :
    Calls Tryd.prog 57 #[a.v, c.v] w fun e w' => e = .returned (.bool (appliesB a c)) ∧ Ext w w' := by
  go_enter Tryd.func57, Tryd.ntmps57
  repeat' (
      first
        | ((with_reducible apply wp_seq_k); intro K hK)
        | (simp only [Exit.then, Exit.inBlock, ↓reduceIte, Nat.reduceEqDiff])
        | with_reducible apply wp_block
        | with_reducible apply wp_skip
        | with_reducible apply wp_exit
        | ((with_reducible apply wp_cond_true); (focus exact rfl))
        | ((with_reducible apply wp_cond_false); (focus exact rfl))
        | (((with_reducible apply wp_cond_split); (focus exact rfl)) <;> intro hb <;> (try simp only [bne_iff_ne, ne_eq, bne_eq_false_iff_eq, beq_iff_eq, beq_eq_false_iff_ne, decide_eq_true_eq, decide_eq_false_iff_not, Bool.not_eq_true', Bool.not_eq_false', Bool.and_eq_true, Bool.or_eq_true, Bool.and_eq_false_iff, Bool.or_eq_false_iff, Int.not_lt, Int.not_le, Bool.not_eq_true, Bool.not_eq_false] at hb) <;> (try (have hbl := And.left hb; have hbr := And.right hb)) <;> (try (have hbll := And.left hbl; have hblr := And.right hbl)) <;> (try first | contradiction | exact (bff hb (by assumption)).elim | exact (bft hb (by assumption)).elim | (exfalso; omega)))
        | ((with_reducible apply (wp_region_lit (id := 0)))
           ((with_reducible apply l_boxN); (focus exact rfl); intro g2 w2 hb2 hx2 hg2; (try simp only [SS, Nat.reduceAdd]))
           ((with_reducible apply l_boxN); (focus exact rfl); intro g3 w3 hb3 hx3 hg3; (try simp only [SS, Nat.reduceAdd]))
           ((with_reducible apply l_assign); (focus (first | (simp only [EE]; done) | (simp only [EE]; exact rfl) | exact rfl)); (try simp only [SS, Nat.reduceAdd]))
           (with_reducible apply wpList_nil))
        | ((with_reducible apply (wp_region_seq (id := 1)))
           ((with_reducible apply p_loadN); (focus exact rfl); (focus (first | assumption | ((first | (apply rb; assumption) | (apply rx; assumption)); (focus (repeat (first | exact xr _ | assumption | (apply xt; assumption))))))); (focus exact rfl); (try simp only [SS, Nat.reduceAdd]))
           ((with_reducible apply p_loadN); (focus exact rfl); (focus (first | assumption | ((first | (apply rb; assumption) | (apply rx; assumption)); (focus (repeat (first | exact xr _ | assumption | (apply xt; assumption))))))); (focus exact rfl); (try simp only [SS, Nat.reduceAdd]))
           ((with_reducible apply p_enter); (focus (first | (simp only [EE]; done) | (simp only [EE]; exact rfl) | exact rfl)); first | ((focus (intro w1 hw1; (with_reducible refine (alike_any _ _ _).mono ?_);  rintro e w7 ⟨rfl, hx7⟩; exact ⟨rfl, hx7⟩)); (try simp only [SS, Nat.reduceAdd])))
           ((with_reducible apply p_move); (focus (first | (simp only [EE]; done) | (simp only [EE]; exact rfl) | exact rfl)); (try simp only [SS, Nat.reduceAdd]))
           ((with_reducible apply par_ct); (focus exact rfl); (focus exact rfl); (focus (intro hg1 w1 hx K hK; have hq1 := hg1; (try simp only [decide_eq_true_eq, decide_eq_false_iff_not, Int.not_lt, Int.not_le] at hq1); (try simp only [hg1, GS2] at hK ⊢); ((with_reducible apply r_fieldAddr); (focus exact rfl); exact hK _ (Ext.refl _)))); (try simp only [SS, Nat.reduceAdd]))
           ((with_reducible apply par_ct); (focus exact rfl); (focus exact rfl); (focus (intro hg1 w1 hx K hK; have hq1 := hg1; (try simp only [decide_eq_true_eq, decide_eq_false_iff_not, Int.not_lt, Int.not_le] at hq1); (try simp only [hg1, GS2] at hK ⊢); ((with_reducible apply r_load1); (focus exact rfl); (focus (first | assumption | ((apply cx); (focus assumption); (focus (repeat (first | exact xr _ | assumption | (apply xt; assumption)))); done) | ((first | (apply cb; assumption) | (apply c0; assumption) | (apply cr; assumption) | (apply cp; assumption)); (focus (repeat (first | exact xr _ | assumption | (apply xt; assumption)))); exact rfl))); exact hK _ (Ext.refl _)))); (try simp only [SS, Nat.reduceAdd]))
           ((with_reducible apply par_ct); (focus exact rfl); (focus exact rfl); (focus (intro hg1 w1 hx K hK; have hq1 := hg1; (try simp only [decide_eq_true_eq, decide_eq_false_iff_not, Int.not_lt, Int.not_le] at hq1); (try simp only [hg1, GS2] at hK ⊢); ((with_reducible apply r_fieldAddr); (focus exact rfl); exact hK _ (Ext.refl _)))); (try simp only [SS, Nat.reduceAdd]))
           ((with_reducible apply par_ct); (focus exact rfl); (focus exact rfl); (focus (intro hg1 w1 hx K hK; have hq1 := hg1; (try simp only [decide_eq_true_eq, decide_eq_false_iff_not, Int.not_lt, Int.not_le] at hq1); (try simp only [hg1, GS2] at hK ⊢); ((with_reducible apply r_load1); (focus exact rfl); (focus (first | assumption | ((apply cx); (focus assumption); (focus (repeat (first | exact xr _ | assumption | (apply xt; assumption)))); done) | ((first | (apply cb; assumption) | (apply c0; assumption) | (apply cr; assumption) | (apply cp; assumption)); (focus (repeat (first | exact xr _ | assumption | (apply xt; assumption)))); exact rfl))); exact hK _ (Ext.refl _)))); (try simp only [SS, Nat.reduceAdd]))
           ((with_reducible apply par_ct); (focus exact rfl); (focus exact rfl); (focus (intro hg1 w1 hx K hK; have hq1 := hg1; (try simp only [decide_eq_true_eq, decide_eq_false_iff_not, Int.not_lt, Int.not_le] at hq1); (try simp only [hg1, GS2] at hK ⊢); ((with_reducible apply r_fieldAddr); (focus exact rfl); exact hK _ (Ext.refl _)))); (try simp only [SS, Nat.reduceAdd]))
           ((with_reducible apply par_ct); (focus exact rfl); (focus exact rfl); (focus (intro hg1 w1 hx K hK; have hq1 := hg1; (try simp only [decide_eq_true_eq, decide_eq_false_iff_not, Int.not_lt, Int.not_le] at hq1); (try simp only [hg1, GS2] at hK ⊢); ((with_reducible apply r_load1); (focus exact rfl); (focus (first | assumption | ((apply cx); (focus assumption); (focus (repeat (first | exact xr _ | assumption | (apply xt; assumption)))); done) | ((first | (apply cb; assumption) | (apply c0; assumption) | (apply cr; assumption) | (apply cp; assumption)); (focus (repeat (first | exact xr _ | assumption | (apply xt; assumption)))); exact rfl))); exact hK _ (Ext.refl _)))); (try simp only [SS, Nat.reduceAdd]))
           ((with_reducible apply par_ct); (focus exact rfl); (focus exact rfl); (focus (intro hg1 w1 hx K hK; have hq1 := hg1; (try simp only [decide_eq_true_eq, decide_eq_false_iff_not, Int.not_lt, Int.not_le] at hq1); (try simp only [hg1, GS2] at hK ⊢); ((with_reducible apply r_enter); (focus (first | (simp only [EE]; done) | (simp only [EE]; exact rfl) | exact rfl)); first | ((with_reducible refine (outside_any _ _ _ _).mono ?_);  rintro e w15 ⟨rfl, hx15⟩; exact hK _ hx15)))); (try simp only [SS, Nat.reduceAdd]))
           ((with_reducible apply par_ct); (focus exact rfl); (focus exact rfl); (focus (intro hg1 w1 hx K hK; have hq1 := hg1; (try simp only [decide_eq_true_eq, decide_eq_false_iff_not, Int.not_lt, Int.not_le] at hq1); (try simp only [hg1, GS2] at hK ⊢); ((with_reducible apply r_not); (focus exact rfl); exact hK _ (Ext.refl _)))); (try simp only [SS, Nat.reduceAdd]))
           ((with_reducible apply p_and); (focus exact rfl); (focus exact rfl); (try simp only [SS, Nat.reduceAdd]))
           ((with_reducible apply p_assign); (focus (first | (simp only [EE]; done) | (simp only [EE]; exact rfl) | exact rfl)); (try simp only [SS, Nat.reduceAdd]))
           ((with_reducible apply par_nil); intro v1 hv1 _))
        | ((fail_if_success (with_reducible apply no_region)); (fail_if_success (with_reducible apply no_list)); (fail_if_success (with_reducible apply no_oper)); (fail_if_success (with_reducible apply no_par)); (fail_if_success (with_reducible apply no_loop)); go_step))
  all_goals
    go_ret
    refine ⟨ret_bool ?_, (by (focus (repeat (first | exact xr _ | assumption | (apply xt; assumption)))))⟩
    simp [appliesB, *]
theorem applies8_any (a : Agr) (c : Cas) (w : World) :
    Calls Tryd.prog 60 #[a.v, c.v] w fun e w' => e = .returned (.bool (appliesB a c)) ∧ Ext w w' := by
  go_enter Tryd.func60, Tryd.ntmps60
  repeat' (
      first
        | ((with_reducible apply wp_seq_k); intro K hK)
        | (simp only [Exit.then, Exit.inBlock, ↓reduceIte, Nat.reduceEqDiff])
        | with_reducible apply wp_block
        | with_reducible apply wp_skip
        | with_reducible apply wp_exit
        | ((with_reducible apply wp_cond_true); (focus exact rfl))
        | ((with_reducible apply wp_cond_false); (focus exact rfl))
        | (((with_reducible apply wp_cond_split); (focus exact rfl)) <;> intro hb <;> (try simp only [bne_iff_ne, ne_eq, bne_eq_false_iff_eq, beq_iff_eq, beq_eq_false_iff_ne, decide_eq_true_eq, decide_eq_false_iff_not, Bool.not_eq_true', Bool.not_eq_false', Bool.and_eq_true, Bool.or_eq_true, Bool.and_eq_false_iff, Bool.or_eq_false_iff, Int.not_lt, Int.not_le, Bool.not_eq_true, Bool.not_eq_false] at hb) <;> (try (have hbl := And.left hb; have hbr := And.right hb)) <;> (try (have hbll := And.left hbl; have hblr := And.right hbl)) <;> (try first | contradiction | exact (bff hb (by assumption)).elim | exact (bft hb (by assumption)).elim | (exfalso; omega)))
        | ((with_reducible apply (wp_region_lit (id := 0)))
           ((with_reducible apply l_boxN); (focus exact rfl); intro g2 w2 hb2 hx2 hg2; (try simp only [SS, Nat.reduceAdd]))
           ((with_reducible apply l_boxN); (focus exact rfl); intro g3 w3 hb3 hx3 hg3; (try simp only [SS, Nat.reduceAdd]))
           ((with_reducible apply l_assign); (focus (first | (simp only [EE]; done) | (simp only [EE]; exact rfl) | exact rfl)); (try simp only [SS, Nat.reduceAdd]))
           (with_reducible apply wpList_nil))
        | ((with_reducible apply (wp_region_seq (id := 1)))
           ((with_reducible apply p_fieldAddr); (focus exact rfl); (try simp only [SS, Nat.reduceAdd]))
           ((with_reducible apply p_load1); (focus exact rfl); (focus (first | assumption | ((apply cx); (focus assumption); (focus (repeat (first | exact xr _ | assumption | (apply xt; assumption)))); done) | ((first | (apply cb; assumption) | (apply c0; assumption) | (apply cr; assumption) | (apply cp; assumption)); (focus (repeat (first | exact xr _ | assumption | (apply xt; assumption)))); exact rfl))); (try simp only [SS, Nat.reduceAdd]))
           ((with_reducible apply p_fieldAddr); (focus exact rfl); (try simp only [SS, Nat.reduceAdd]))
           ((with_reducible apply p_load1); (focus exact rfl); (focus (first | assumption | ((apply cx); (focus assumption); (focus (repeat (first | exact xr _ | assumption | (apply xt; assumption)))); done) | ((first | (apply cb; assumption) | (apply c0; assumption) | (apply cr; assumption) | (apply cp; assumption)); (focus (repeat (first | exact xr _ | assumption | (apply xt; assumption)))); exact rfl))); (try simp only [SS, Nat.reduceAdd]))
           ((with_reducible apply p_seql); (focus exact rfl); (focus exact rfl); (try simp only [SS, Nat.reduceAdd]))
           ((with_reducible apply p_move); (focus (first | (simp only [EE]; done) | (simp only [EE]; exact rfl) | exact rfl)); (try simp only [SS, Nat.reduceAdd]))
           ((with_reducible apply par_ct); (focus exact rfl); (focus exact rfl); (focus (intro hg1 w1 hx K hK; have hq1 := hg1; (try simp only [decide_eq_true_eq, decide_eq_false_iff_not, Int.not_lt, Int.not_le] at hq1); (try simp only [hg1, GS2] at hK ⊢); ((with_reducible apply r_fieldAddr); (focus exact rfl); exact hK _ (Ext.refl _)))); (try simp only [SS, Nat.reduceAdd]))
           ((with_reducible apply par_ct); (focus exact rfl); (focus exact rfl); (focus (intro hg1 w1 hx K hK; have hq1 := hg1; (try simp only [decide_eq_true_eq, decide_eq_false_iff_not, Int.not_lt, Int.not_le] at hq1); (try simp only [hg1, GS2] at hK ⊢); ((with_reducible apply r_load1); (focus exact rfl); (focus (first | assumption | ((apply cx); (focus assumption); (focus (repeat (first | exact xr _ | assumption | (apply xt; assumption)))); done) | ((first | (apply cb; assumption) | (apply c0; assumption) | (apply cr; assumption) | (apply cp; assumption)); (focus (repeat (first | exact xr _ | assumption | (apply xt; assumption)))); exact rfl))); exact hK _ (Ext.refl _)))); (try simp only [SS, Nat.reduceAdd]))
           ((with_reducible apply par_ct); (focus exact rfl); (focus exact rfl); (focus (intro hg1 w1 hx K hK; have hq1 := hg1; (try simp only [decide_eq_true_eq, decide_eq_false_iff_not, Int.not_lt, Int.not_le] at hq1); (try simp only [hg1, GS2] at hK ⊢); ((with_reducible apply r_fieldAddr); (focus exact rfl); exact hK _ (Ext.refl _)))); (try simp only [SS, Nat.reduceAdd]))
           ((with_reducible apply par_ct); (focus exact rfl); (focus exact rfl); (focus (intro hg1 w1 hx K hK; have hq1 := hg1; (try simp only [decide_eq_true_eq, decide_eq_false_iff_not, Int.not_lt, Int.not_le] at hq1); (try simp only [hg1, GS2] at hK ⊢); ((with_reducible apply r_load1); (focus exact rfl); (focus (first | assumption | ((apply cx); (focus assumption); (focus (repeat (first | exact xr _ | assumption | (apply xt; assumption)))); done) | ((first | (apply cb; assumption) | (apply c0; assumption) | (apply cr; assumption) | (apply cp; assumption)); (focus (repeat (first | exact xr _ | assumption | (apply xt; assumption)))); exact rfl))); exact hK _ (Ext.refl _)))); (try simp only [SS, Nat.reduceAdd]))
           ((with_reducible apply par_ct); (focus exact rfl); (focus exact rfl); (focus (intro hg1 w1 hx K hK; have hq1 := hg1; (try simp only [decide_eq_true_eq, decide_eq_false_iff_not, Int.not_lt, Int.not_le] at hq1); (try simp only [hg1, GS2] at hK ⊢); ((with_reducible apply r_seql); (focus exact rfl); (focus exact rfl); exact hK _ (Ext.refl _)))); (try simp only [SS, Nat.reduceAdd]))
           ((with_reducible apply p_and); (focus exact rfl); (focus exact rfl); (try simp only [SS, Nat.reduceAdd]))
           ((with_reducible apply p_move); (focus (first | (simp only [EE]; done) | (simp only [EE]; exact rfl) | exact rfl)); (try simp only [SS, Nat.reduceAdd]))
           ((with_reducible apply par_ct); (focus exact rfl); (focus exact rfl); (focus (intro hg1 w1 hx K hK; have hq1 := hg1; (try simp only [decide_eq_true_eq, decide_eq_false_iff_not, Int.not_lt, Int.not_le] at hq1); (try simp only [hg1, GS2] at hK ⊢); ((with_reducible apply r_fieldAddr); (focus exact rfl); exact hK _ (Ext.refl _)))); (try simp only [SS, Nat.reduceAdd]))
           ((with_reducible apply par_ct); (focus exact rfl); (focus exact rfl); (focus (intro hg1 w1 hx K hK; have hq1 := hg1; (try simp only [decide_eq_true_eq, decide_eq_false_iff_not, Int.not_lt, Int.not_le] at hq1); (try simp only [hg1, GS2] at hK ⊢); ((with_reducible apply r_load1); (focus exact rfl); (focus (first | assumption | ((apply cx); (focus assumption); (focus (repeat (first | exact xr _ | assumption | (apply xt; assumption)))); done) | ((first | (apply cb; assumption) | (apply c0; assumption) | (apply cr; assumption) | (apply cp; assumption)); (focus (repeat (first | exact xr _ | assumption | (apply xt; assumption)))); exact rfl))); exact hK _ (Ext.refl _)))); (try simp only [SS, Nat.reduceAdd]))
           ((with_reducible apply par_ct); (focus exact rfl); (focus exact rfl); (focus (intro hg1 w1 hx K hK; have hq1 := hg1; (try simp only [decide_eq_true_eq, decide_eq_false_iff_not, Int.not_lt, Int.not_le] at hq1); (try simp only [hg1, GS2] at hK ⊢); ((with_reducible apply r_fieldAddr); (focus exact rfl); exact hK _ (Ext.refl _)))); (try simp only [SS, Nat.reduceAdd]))
           ((with_reducible apply par_ct); (focus exact rfl); (focus exact rfl); (focus (intro hg1 w1 hx K hK; have hq1 := hg1; (try simp only [decide_eq_true_eq, decide_eq_false_iff_not, Int.not_lt, Int.not_le] at hq1); (try simp only [hg1, GS2] at hK ⊢); ((with_reducible apply r_load1); (focus exact rfl); (focus (first | assumption | ((apply cx); (focus assumption); (focus (repeat (first | exact xr _ | assumption | (apply xt; assumption)))); done) | ((first | (apply cb; assumption) | (apply c0; assumption) | (apply cr; assumption) | (apply cp; assumption)); (focus (repeat (first | exact xr _ | assumption | (apply xt; assumption)))); exact rfl))); exact hK _ (Ext.refl _)))); (try simp only [SS, Nat.reduceAdd]))
           ((with_reducible apply par_ct); (focus exact rfl); (focus exact rfl); (focus (intro hg1 w1 hx K hK; have hq1 := hg1; (try simp only [decide_eq_true_eq, decide_eq_false_iff_not, Int.not_lt, Int.not_le] at hq1); (try simp only [hg1, GS2] at hK ⊢); ((with_reducible apply r_boolEq); (focus exact rfl); (focus exact rfl); exact hK _ (Ext.refl _)))); (try simp only [SS, Nat.reduceAdd]))
           ((with_reducible apply p_and); (focus exact rfl); (focus exact rfl); (try simp only [SS, Nat.reduceAdd]))
           ((with_reducible apply p_move); (focus (first | (simp only [EE]; done) | (simp only [EE]; exact rfl) | exact rfl)); (try simp only [SS, Nat.reduceAdd]))
           ((with_reducible apply par_ct); (focus exact rfl); (focus exact rfl); (focus (intro hg1 w1 hx K hK; have hq1 := hg1; (try simp only [decide_eq_true_eq, decide_eq_false_iff_not, Int.not_lt, Int.not_le] at hq1); (try simp only [hg1, GS2] at hK ⊢); ((with_reducible apply r_fieldAddr); (focus exact rfl); exact hK _ (Ext.refl _)))); (try simp only [SS, Nat.reduceAdd]))
           ((with_reducible apply par_ct); (focus exact rfl); (focus exact rfl); (focus (intro hg1 w1 hx K hK; have hq1 := hg1; (try simp only [decide_eq_true_eq, decide_eq_false_iff_not, Int.not_lt, Int.not_le] at hq1); (try simp only [hg1, GS2] at hK ⊢); ((with_reducible apply r_load1); (focus exact rfl); (focus (first | assumption | ((apply cx); (focus assumption); (focus (repeat (first | exact xr _ | assumption | (apply xt; assumption)))); done) | ((first | (apply cb; assumption) | (apply c0; assumption) | (apply cr; assumption) | (apply cp; assumption)); (focus (repeat (first | exact xr _ | assumption | (apply xt; assumption)))); exact rfl))); exact hK _ (Ext.refl _)))); (try simp only [SS, Nat.reduceAdd]))
           ((with_reducible apply par_ct); (focus exact rfl); (focus exact rfl); (focus (intro hg1 w1 hx K hK; have hq1 := hg1; (try simp only [decide_eq_true_eq, decide_eq_false_iff_not, Int.not_lt, Int.not_le] at hq1); (try simp only [hg1, GS2] at hK ⊢); ((with_reducible apply r_seql); (focus exact rfl); (focus exact rfl); exact hK _ (Ext.refl _)))); (try simp only [SS, Nat.reduceAdd]))
           ((with_reducible apply par_ct); (focus exact rfl); (focus exact rfl); (focus (intro hg1 w1 hx K hK; have hq1 := hg1; (try simp only [decide_eq_true_eq, decide_eq_false_iff_not, Int.not_lt, Int.not_le] at hq1); (try simp only [hg1, GS2] at hK ⊢); ((with_reducible apply r_move); (focus (first | (simp only [EE]; done) | (simp only [EE]; exact rfl) | exact rfl)); exact hK _ (Ext.refl _)))); (try simp only [SS, Nat.reduceAdd]))
           ((with_reducible apply par_gf); (focus exact rfl); (focus exact rfl); (focus (intro hg1 hg2 w1 hx K hK; have hq1 := hg1; have hq2 := hg2; (try simp only [decide_eq_true_eq, decide_eq_false_iff_not, Int.not_lt, Int.not_le, Bool.and_eq_true, Bool.not_eq_true', Bool.not_eq_false'] at hq1); (try simp only [decide_eq_true_eq, decide_eq_false_iff_not, Int.not_lt, Int.not_le] at hq2); (try simp only [hg1, GS2] at hK ⊢); (try simp only [hg2, GS2] at hK ⊢); ((with_reducible apply r_fieldAddr); (focus exact rfl); exact hK _ (Ext.refl _)))); (try simp only [SS, Nat.reduceAdd]))
           ((with_reducible apply par_gf); (focus exact rfl); (focus exact rfl); (focus (intro hg1 hg2 w1 hx K hK; have hq1 := hg1; have hq2 := hg2; (try simp only [decide_eq_true_eq, decide_eq_false_iff_not, Int.not_lt, Int.not_le, Bool.and_eq_true, Bool.not_eq_true', Bool.not_eq_false'] at hq1); (try simp only [decide_eq_true_eq, decide_eq_false_iff_not, Int.not_lt, Int.not_le] at hq2); (try simp only [hg1, GS2] at hK ⊢); (try simp only [hg2, GS2] at hK ⊢); ((with_reducible apply r_load1); (focus exact rfl); (focus (first | assumption | ((apply cx); (focus assumption); (focus (repeat (first | exact xr _ | assumption | (apply xt; assumption)))); done) | ((first | (apply cb; assumption) | (apply c0; assumption) | (apply cr; assumption) | (apply cp; assumption)); (focus (repeat (first | exact xr _ | assumption | (apply xt; assumption)))); exact rfl))); exact hK _ (Ext.refl _)))); (try simp only [SS, Nat.reduceAdd]))
           ((with_reducible apply par_gf); (focus exact rfl); (focus exact rfl); (focus (intro hg1 hg2 w1 hx K hK; have hq1 := hg1; have hq2 := hg2; (try simp only [decide_eq_true_eq, decide_eq_false_iff_not, Int.not_lt, Int.not_le, Bool.and_eq_true, Bool.not_eq_true', Bool.not_eq_false'] at hq1); (try simp only [decide_eq_true_eq, decide_eq_false_iff_not, Int.not_lt, Int.not_le] at hq2); (try simp only [hg1, GS2] at hK ⊢); (try simp only [hg2, GS2] at hK ⊢); ((with_reducible apply r_fieldAddr); (focus exact rfl); exact hK _ (Ext.refl _)))); (try simp only [SS, Nat.reduceAdd]))
           ((with_reducible apply par_gf); (focus exact rfl); (focus exact rfl); (focus (intro hg1 hg2 w1 hx K hK; have hq1 := hg1; have hq2 := hg2; (try simp only [decide_eq_true_eq, decide_eq_false_iff_not, Int.not_lt, Int.not_le, Bool.and_eq_true, Bool.not_eq_true', Bool.not_eq_false'] at hq1); (try simp only [decide_eq_true_eq, decide_eq_false_iff_not, Int.not_lt, Int.not_le] at hq2); (try simp only [hg1, GS2] at hK ⊢); (try simp only [hg2, GS2] at hK ⊢); ((with_reducible apply r_load1); (focus exact rfl); (focus (first | assumption | ((apply cx); (focus assumption); (focus (repeat (first | exact xr _ | assumption | (apply xt; assumption)))); done) | ((first | (apply cb; assumption) | (apply c0; assumption) | (apply cr; assumption) | (apply cp; assumption)); (focus (repeat (first | exact xr _ | assumption | (apply xt; assumption)))); exact rfl))); exact hK _ (Ext.refl _)))); (try simp only [SS, Nat.reduceAdd]))
           ((with_reducible apply par_gf); (focus exact rfl); (focus exact rfl); (focus (intro hg1 hg2 w1 hx K hK; have hq1 := hg1; have hq2 := hg2; (try simp only [decide_eq_true_eq, decide_eq_false_iff_not, Int.not_lt, Int.not_le, Bool.and_eq_true, Bool.not_eq_true', Bool.not_eq_false'] at hq1); (try simp only [decide_eq_true_eq, decide_eq_false_iff_not, Int.not_lt, Int.not_le] at hq2); (try simp only [hg1, GS2] at hK ⊢); (try simp only [hg2, GS2] at hK ⊢); ((with_reducible apply r_seql); (focus exact rfl); (focus exact rfl); exact hK _ (Ext.refl _)))); (try simp only [SS, Nat.reduceAdd]))
           ((with_reducible apply par_ct); (focus exact rfl); (focus exact rfl); (focus (intro hg1 w1 hx K hK; have hq1 := hg1; (try simp only [decide_eq_true_eq, decide_eq_false_iff_not, Int.not_lt, Int.not_le] at hq1); (try simp only [hg1, GS2] at hK ⊢); (refine wp_or rfl rfl rfl ?_; exact hK _ (Ext.refl _)))); (try simp only [SS, Nat.reduceAdd]))
           ((with_reducible apply p_and); (focus exact rfl); (focus exact rfl); (try simp only [SS, Nat.reduceAdd]))
           ((with_reducible apply p_move); (focus (first | (simp only [EE]; done) | (simp only [EE]; exact rfl) | exact rfl)); (try simp only [SS, Nat.reduceAdd]))
           ((with_reducible apply par_ct); (focus exact rfl); (focus exact rfl); (focus (intro hg1 w1 hx K hK; have hq1 := hg1; (try simp only [decide_eq_true_eq, decide_eq_false_iff_not, Int.not_lt, Int.not_le] at hq1); (try simp only [hg1, GS2] at hK ⊢); ((with_reducible apply r_fieldAddr); (focus exact rfl); exact hK _ (Ext.refl _)))); (try simp only [SS, Nat.reduceAdd]))
           ((with_reducible apply par_ct); (focus exact rfl); (focus exact rfl); (focus (intro hg1 w1 hx K hK; have hq1 := hg1; (try simp only [decide_eq_true_eq, decide_eq_false_iff_not, Int.not_lt, Int.not_le] at hq1); (try simp only [hg1, GS2] at hK ⊢); ((with_reducible apply r_load1); (focus exact rfl); (focus (first | assumption | ((apply cx); (focus assumption); (focus (repeat (first | exact xr _ | assumption | (apply xt; assumption)))); done) | ((first | (apply cb; assumption) | (apply c0; assumption) | (apply cr; assumption) | (apply cp; assumption)); (focus (repeat (first | exact xr _ | assumption | (apply xt; assumption)))); exact rfl))); exact hK _ (Ext.refl _)))); (try simp only [SS, Nat.reduceAdd]))
           ((with_reducible apply par_ct); (focus exact rfl); (focus exact rfl); (focus (intro hg1 w1 hx K hK; have hq1 := hg1; (try simp only [decide_eq_true_eq, decide_eq_false_iff_not, Int.not_lt, Int.not_le] at hq1); (try simp only [hg1, GS2] at hK ⊢); ((with_reducible apply r_seql); (focus exact rfl); (focus exact rfl); exact hK _ (Ext.refl _)))); (try simp only [SS, Nat.reduceAdd]))
           ((with_reducible apply par_ct); (focus exact rfl); (focus exact rfl); (focus (intro hg1 w1 hx K hK; have hq1 := hg1; (try simp only [decide_eq_true_eq, decide_eq_false_iff_not, Int.not_lt, Int.not_le] at hq1); (try simp only [hg1, GS2] at hK ⊢); ((with_reducible apply r_move); (focus (first | (simp only [EE]; done) | (simp only [EE]; exact rfl) | exact rfl)); exact hK _ (Ext.refl _)))); (try simp only [SS, Nat.reduceAdd]))
           ((with_reducible apply par_gf); (focus exact rfl); (focus exact rfl); (focus (intro hg1 hg2 w1 hx K hK; have hq1 := hg1; have hq2 := hg2; (try simp only [decide_eq_true_eq, decide_eq_false_iff_not, Int.not_lt, Int.not_le, Bool.and_eq_true, Bool.not_eq_true', Bool.not_eq_false'] at hq1); (try simp only [decide_eq_true_eq, decide_eq_false_iff_not, Int.not_lt, Int.not_le] at hq2); (try simp only [hg1, GS2] at hK ⊢); (try simp only [hg2, GS2] at hK ⊢); ((with_reducible apply r_fieldAddr); (focus exact rfl); exact hK _ (Ext.refl _)))); (try simp only [SS, Nat.reduceAdd]))
           ((with_reducible apply par_gf); (focus exact rfl); (focus exact rfl); (focus (intro hg1 hg2 w1 hx K hK; have hq1 := hg1; have hq2 := hg2; (try simp only [decide_eq_true_eq, decide_eq_false_iff_not, Int.not_lt, Int.not_le, Bool.and_eq_true, Bool.not_eq_true', Bool.not_eq_false'] at hq1); (try simp only [decide_eq_true_eq, decide_eq_false_iff_not, Int.not_lt, Int.not_le] at hq2); (try simp only [hg1, GS2] at hK ⊢); (try simp only [hg2, GS2] at hK ⊢); ((with_reducible apply r_load1); (focus exact rfl); (focus (first | assumption | ((apply cx); (focus assumption); (focus (repeat (first | exact xr _ | assumption | (apply xt; assumption)))); done) | ((first | (apply cb; assumption) | (apply c0; assumption) | (apply cr; assumption) | (apply cp; assumption)); (focus (repeat (first | exact xr _ | assumption | (apply xt; assumption)))); exact rfl))); exact hK _ (Ext.refl _)))); (try simp only [SS, Nat.reduceAdd]))
           ((with_reducible apply par_gf); (focus exact rfl); (focus exact rfl); (focus (intro hg1 hg2 w1 hx K hK; have hq1 := hg1; have hq2 := hg2; (try simp only [decide_eq_true_eq, decide_eq_false_iff_not, Int.not_lt, Int.not_le, Bool.and_eq_true, Bool.not_eq_true', Bool.not_eq_false'] at hq1); (try simp only [decide_eq_true_eq, decide_eq_false_iff_not, Int.not_lt, Int.not_le] at hq2); (try simp only [hg1, GS2] at hK ⊢); (try simp only [hg2, GS2] at hK ⊢); ((with_reducible apply r_fieldAddr); (focus exact rfl); exact hK _ (Ext.refl _)))); (try simp only [SS, Nat.reduceAdd]))
           ((with_reducible apply par_gf); (focus exact rfl); (focus exact rfl); (focus (intro hg1 hg2 w1 hx K hK; have hq1 := hg1; have hq2 := hg2; (try simp only [decide_eq_true_eq, decide_eq_false_iff_not, Int.not_lt, Int.not_le, Bool.and_eq_true, Bool.not_eq_true', Bool.not_eq_false'] at hq1); (try simp only [decide_eq_true_eq, decide_eq_false_iff_not, Int.not_lt, Int.not_le] at hq2); (try simp only [hg1, GS2] at hK ⊢); (try simp only [hg2, GS2] at hK ⊢); ((with_reducible apply r_load1); (focus exact rfl); (focus (first | assumption | ((apply cx); (focus assumption); (focus (repeat (first | exact xr _ | assumption | (apply xt; assumption)))); done) | ((first | (apply cb; assumption) | (apply c0; assumption) | (apply cr; assumption) | (apply cp; assumption)); (focus (repeat (first | exact xr _ | assumption | (apply xt; assumption)))); exact rfl))); exact hK _ (Ext.refl _)))); (try simp only [SS, Nat.reduceAdd]))
           ((with_reducible apply par_gf); (focus exact rfl); (focus exact rfl); (focus (intro hg1 hg2 w1 hx K hK; have hq1 := hg1; have hq2 := hg2; (try simp only [decide_eq_true_eq, decide_eq_false_iff_not, Int.not_lt, Int.not_le, Bool.and_eq_true, Bool.not_eq_true', Bool.not_eq_false'] at hq1); (try simp only [decide_eq_true_eq, decide_eq_false_iff_not, Int.not_lt, Int.not_le] at hq2); (try simp only [hg1, GS2] at hK ⊢); (try simp only [hg2, GS2] at hK ⊢); ((with_reducible apply r_seql); (focus exact rfl); (focus exact rfl); exact hK _ (Ext.refl _)))); (try simp only [SS, Nat.reduceAdd]))
           ((with_reducible apply par_ct); (focus exact rfl); (focus exact rfl); (focus (intro hg1 w1 hx K hK; have hq1 := hg1; (try simp only [decide_eq_true_eq, decide_eq_false_iff_not, Int.not_lt, Int.not_le] at hq1); (try simp only [hg1, GS2] at hK ⊢); (refine wp_or rfl rfl rfl ?_; exact hK _ (Ext.refl _)))); (try simp only [SS, Nat.reduceAdd]))
           ((with_reducible apply p_and); (focus exact rfl); (focus exact rfl); (try simp only [SS, Nat.reduceAdd]))
           ((with_reducible apply p_move); (focus (first | (simp only [EE]; done) | (simp only [EE]; exact rfl) | exact rfl)); (try simp only [SS, Nat.reduceAdd]))
           ((with_reducible apply par_ct); (focus exact rfl); (focus exact rfl); (focus (intro hg1 w1 hx K hK; have hq1 := hg1; (try simp only [decide_eq_true_eq, decide_eq_false_iff_not, Int.not_lt, Int.not_le] at hq1); (try simp only [hg1, GS2] at hK ⊢); ((with_reducible apply r_fieldAddr); (focus exact rfl); exact hK _ (Ext.refl _)))); (try simp only [SS, Nat.reduceAdd]))
           ((with_reducible apply par_ct); (focus exact rfl); (focus exact rfl); (focus (intro hg1 w1 hx K hK; have hq1 := hg1; (try simp only [decide_eq_true_eq, decide_eq_false_iff_not, Int.not_lt, Int.not_le] at hq1); (try simp only [hg1, GS2] at hK ⊢); ((with_reducible apply r_load1); (focus exact rfl); (focus (first | assumption | ((apply cx); (focus assumption); (focus (repeat (first | exact xr _ | assumption | (apply xt; assumption)))); done) | ((first | (apply cb; assumption) | (apply c0; assumption) | (apply cr; assumption) | (apply cp; assumption)); (focus (repeat (first | exact xr _ | assumption | (apply xt; assumption)))); exact rfl))); exact hK _ (Ext.refl _)))); (try simp only [SS, Nat.reduceAdd]))
           ((with_reducible apply par_ct); (focus exact rfl); (focus exact rfl); (focus (intro hg1 w1 hx K hK; have hq1 := hg1; (try simp only [decide_eq_true_eq, decide_eq_false_iff_not, Int.not_lt, Int.not_le] at hq1); (try simp only [hg1, GS2] at hK ⊢); ((with_reducible apply r_fieldAddr); (focus exact rfl); exact hK _ (Ext.refl _)))); (try simp only [SS, Nat.reduceAdd]))
           ((with_reducible apply par_ct); (focus exact rfl); (focus exact rfl); (focus (intro hg1 w1 hx K hK; have hq1 := hg1; (try simp only [decide_eq_true_eq, decide_eq_false_iff_not, Int.not_lt, Int.not_le] at hq1); (try simp only [hg1, GS2] at hK ⊢); ((with_reducible apply r_load1); (focus exact rfl); (focus (first | assumption | ((apply cx); (focus assumption); (focus (repeat (first | exact xr _ | assumption | (apply xt; assumption)))); done) | ((first | (apply cb; assumption) | (apply c0; assumption) | (apply cr; assumption) | (apply cp; assumption)); (focus (repeat (first | exact xr _ | assumption | (apply xt; assumption)))); exact rfl))); exact hK _ (Ext.refl _)))); (try simp only [SS, Nat.reduceAdd]))
           ((with_reducible apply par_ct); (focus exact rfl); (focus exact rfl); (focus (intro hg1 w1 hx K hK; have hq1 := hg1; (try simp only [decide_eq_true_eq, decide_eq_false_iff_not, Int.not_lt, Int.not_le] at hq1); (try simp only [hg1, GS2] at hK ⊢); ((with_reducible apply r_fieldAddr); (focus exact rfl); exact hK _ (Ext.refl _)))); (try simp only [SS, Nat.reduceAdd]))
           ((with_reducible apply par_ct); (focus exact rfl); (focus exact rfl); (focus (intro hg1 w1 hx K hK; have hq1 := hg1; (try simp only [decide_eq_true_eq, decide_eq_false_iff_not, Int.not_lt, Int.not_le] at hq1); (try simp only [hg1, GS2] at hK ⊢); ((with_reducible apply r_load1); (focus exact rfl); (focus (first | assumption | ((apply cx); (focus assumption); (focus (repeat (first | exact xr _ | assumption | (apply xt; assumption)))); done) | ((first | (apply cb; assumption) | (apply c0; assumption) | (apply cr; assumption) | (apply cp; assumption)); (focus (repeat (first | exact xr _ | assumption | (apply xt; assumption)))); exact rfl))); exact hK _ (Ext.refl _)))); (try simp only [SS, Nat.reduceAdd]))
           ((with_reducible apply par_ct); (focus exact rfl); (focus exact rfl); (focus (intro hg1 w1 hx K hK; have hq1 := hg1; (try simp only [decide_eq_true_eq, decide_eq_false_iff_not, Int.not_lt, Int.not_le] at hq1); (try simp only [hg1, GS2] at hK ⊢); ((with_reducible apply r_enter); (focus (first | (simp only [EE]; done) | (simp only [EE]; exact rfl) | exact rfl)); first | ((with_reducible refine (within_any _ _ _ _).mono ?_);  rintro e w55 ⟨rfl, hx55⟩; exact hK _ hx55)))); (try simp only [SS, Nat.reduceAdd]))
           ((with_reducible apply p_and); (focus exact rfl); (focus exact rfl); (try simp only [SS, Nat.reduceAdd]))
           ((with_reducible apply p_assign); (focus (first | (simp only [EE]; done) | (simp only [EE]; exact rfl) | exact rfl)); (try simp only [SS, Nat.reduceAdd]))
           ((with_reducible apply par_nil); intro v1 hv1 _))
        | ((fail_if_success (with_reducible apply no_region)); (fail_if_success (with_reducible apply no_list)); (fail_if_success (with_reducible apply no_oper)); (fail_if_success (with_reducible apply no_par)); (fail_if_success (with_reducible apply no_loop)); go_step))
  all_goals
    go_ret
    refine ⟨ret_bool ?_, (by (focus (repeat (first | exact xr _ | assumption | (apply xt; assumption)))))⟩
    simp [appliesB, alikeB]; ac_rfl
set_option maxHeartbeats 1000000 in
set_option maxRecDepth 100000 in
theorem better_any (a b : Agr) (w : World) (ha : a.Fit) (hb' : b.Fit) :
    Calls Tryd.prog 47 #[a.v, b.v] w fun e w' => e = .returned (.int .i64 (betterN a b)) ∧ Ext w w' := by
  obtain ⟨h1, h2, h3, h4⟩ := ha
  obtain ⟨h5, h6, h7, h8⟩ := hb'
  have HB : Hid (betterN a b = firstSign [flagN (!b.msg.isEmpty) - flagN (!a.msg.isEmpty), flagN (!b.ver.isEmpty) - flagN (!a.ver.isEmpty), b.first - a.first, a.last - b.last]) := rfl
  generalize betterN a b = res at *
  simp only [Agr.v]
  go_enter Tryd.func47, Tryd.ntmps47
  obtain ⟨f1, f2⟩ := flagN_bd (!b.msg.isEmpty)
  obtain ⟨f3, f4⟩ := flagN_bd (!a.msg.isEmpty)
  obtain ⟨f5, f6⟩ := flagN_bd (!b.ver.isEmpty)
  obtain ⟨f7, f8⟩ := flagN_bd (!a.ver.isEmpty)
  go_wp2_with fail
  apply wp_region_par (by kernel_rfl) (by kernel_rfl) rfl
  repeat
    first
      | (apply par_val rfl
         · intro w1 hx K hK
           first | (refine wp_and rfl rfl rfl ?_; exact hK _ (Ext.refl _)) | (refine wp_or rfl rfl rfl ?_; exact hK _ (Ext.refl _)) | (obtain ⟨hc, hf⟩ := hx.rules; go_step; (first | exact hK _ (Ext.refl _) | (refine (flagNumber_any _ _).mono ?_; rintro e w' ⟨rfl, hx2⟩; exact hK _ hx2))))
      | (apply par_skip rfl)
      | (apply par_ct rfl rfl
         · intro hg1 w1 hx K hK
           ((try simp only [hg1, GS] at hK ⊢); first | (refine wp_and rfl rfl rfl ?_; exact hK _ (Ext.refl _)) | (refine wp_or rfl rfl rfl ?_; exact hK _ (Ext.refl _)) | (obtain ⟨hc, hf⟩ := hx.rules; go_step; (first | exact hK _ (Ext.refl _) | (refine (flagNumber_any _ _).mono ?_; rintro e w' ⟨rfl, hx2⟩; exact hK _ hx2)))))
      | (apply par_cf rfl rfl
         · intro hg1 w1 hx K hK
           ((try simp only [hg1, GS] at hK ⊢); first | (refine wp_and rfl rfl rfl ?_; exact hK _ (Ext.refl _)) | (refine wp_or rfl rfl rfl ?_; exact hK _ (Ext.refl _)) | (obtain ⟨hc, hf⟩ := hx.rules; go_step; (first | exact hK _ (Ext.refl _) | (refine (flagNumber_any _ _).mono ?_; rintro e w' ⟨rfl, hx2⟩; exact hK _ hx2)))))
      | (apply par_gt rfl rfl
         · intro hg1 hg2 w1 hx K hK
           ((try simp only [hg1, GS] at hK ⊢); (try simp only [hg2, GS] at hK ⊢); first | (refine wp_and rfl rfl rfl ?_; exact hK _ (Ext.refl _)) | (refine wp_or rfl rfl rfl ?_; exact hK _ (Ext.refl _)) | (obtain ⟨hc, hf⟩ := hx.rules; go_step; (first | exact hK _ (Ext.refl _) | (refine (flagNumber_any _ _).mono ?_; rintro e w' ⟨rfl, hx2⟩; exact hK _ hx2)))))
      | (apply par_gf rfl rfl
         · intro hg1 hg2 w1 hx K hK
           ((try simp only [hg1, GS] at hK ⊢); (try simp only [hg2, GS] at hK ⊢); first | (refine wp_and rfl rfl rfl ?_; exact hK _ (Ext.refl _)) | (refine wp_or rfl rfl rfl ?_; exact hK _ (Ext.refl _)) | (obtain ⟨hc, hf⟩ := hx.rules; go_step; (first | exact hK _ (Ext.refl _) | (refine (flagNumber_any _ _).mono ?_; rintro e w' ⟨rfl, hx2⟩; exact hK _ hx2)))))
    try simp only [Act.put, List.setIfInBounds_toArray, List.set_cons_zero, List.set_cons_succ]
  apply par_unk (s := Spec.blk (fun b => .slice (some ⟨b, 0, none⟩) 4 4) 3 _) rfl
  · intro w1 hx _ K hK
    go_step
    exact hK (w1.heap.size, 0, undef) _ (Blk.new _ _ _) (Ext.alloc _ _)
  intro u
  obtain ⟨g, u1, u2⟩ := u
  simp only [Spec.blk]
  try simp only [Act.put, List.setIfInBounds_toArray, List.set_cons_zero, List.set_cons_succ]
  repeat
    first
      | (apply par_val rfl
         · intro w1 hx K hK
           first | (refine wp_and rfl rfl rfl ?_; exact hK _ (Ext.refl _)) | (refine wp_or rfl rfl rfl ?_; exact hK _ (Ext.refl _)) | (obtain ⟨hc, hf⟩ := hx.rules; go_step; (first | exact hK _ (Ext.refl _))))
      | (apply par_skip rfl)
      | (apply par_ct rfl rfl
         · intro hg1 w1 hx K hK
           ((try simp only [hg1, GS] at hK ⊢); first | (refine wp_and rfl rfl rfl ?_; exact hK _ (Ext.refl _)) | (refine wp_or rfl rfl rfl ?_; exact hK _ (Ext.refl _)) | (obtain ⟨hc, hf⟩ := hx.rules; go_step; (first | exact hK _ (Ext.refl _)))))
      | (apply par_cf rfl rfl
         · intro hg1 w1 hx K hK
           ((try simp only [hg1, GS] at hK ⊢); first | (refine wp_and rfl rfl rfl ?_; exact hK _ (Ext.refl _)) | (refine wp_or rfl rfl rfl ?_; exact hK _ (Ext.refl _)) | (obtain ⟨hc, hf⟩ := hx.rules; go_step; (first | exact hK _ (Ext.refl _)))))
      | (apply par_gt rfl rfl
         · intro hg1 hg2 w1 hx K hK
           ((try simp only [hg1, GS] at hK ⊢); (try simp only [hg2, GS] at hK ⊢); first | (refine wp_and rfl rfl rfl ?_; exact hK _ (Ext.refl _)) | (refine wp_or rfl rfl rfl ?_; exact hK _ (Ext.refl _)) | (obtain ⟨hc, hf⟩ := hx.rules; go_step; (first | exact hK _ (Ext.refl _)))))
      | (apply par_gf rfl rfl
         · intro hg1 hg2 w1 hx K hK
           ((try simp only [hg1, GS] at hK ⊢); (try simp only [hg2, GS] at hK ⊢); first | (refine wp_and rfl rfl rfl ?_; exact hK _ (Ext.refl _)) | (refine wp_or rfl rfl rfl ?_; exact hK _ (Ext.refl _)) | (obtain ⟨hc, hf⟩ := hx.rules; go_step; (first | exact hK _ (Ext.refl _)))))
    try simp only [Act.put, List.setIfInBounds_toArray, List.set_cons_zero, List.set_cons_succ]
  apply par_nil
  intro w1 hx hfs
  have hb := hfs _ (List.mem_of_getElem? (i := 28) rfl)
  clear hfs
  have hw : Ext w w1 := (Ext.alloc _ _).trans ((Ext.alloc _ _).trans hx)
  clear hx
  generalize hD : [flagN (!b.msg.isEmpty) - flagN (!a.msg.isEmpty), flagN (!b.ver.isEmpty) - flagN (!a.ver.isEmpty), b.first - a.first, a.last - b.last] = D at *
  have hl : D.length = 4 := by rw [← hD]; rfl
  have hcell : ∀ k, k < 4 → w1.cell? ⟨g, k, none⟩ = some (.int .i64 (D.getD k 0)) := by
    intro k hk
    rw [hb.cell k, ← hD]
    match k, hk with
    | 0, _ => rfl
    | 1, _ => rfl
    | 2, _ => rfl
    | 3, _ => rfl
  have HL := Lib.hid hl
  have HC := Lib.hid hcell
  clear hb h1 h2 h3 h4 h5 h6 h7 h8 f1 f2 f3 f4 f5 f6 f7 f8 hD hl hcell
  go_wp2
  go_loop [37] (fun i => ∃ k : Nat, k ≤ 4 ∧ i = .int .i64 k ∧ Hid (∀ j, j < k → D.getD j 0 = 0)) (fun i => 4 - (intOf i).toNat)
  case atStart => exact ⟨0, by omega, rfl, fun j hj => by omega⟩
  case round =>
    obtain ⟨k, hk, rfl, hz⟩ := hrel
    by_cases hlt : k < 4
    · have hc := HC.out k hlt
      have hs := firstSign_at D k hz.out (by have := HL.out; omega)
      generalize hd : D.getD k 0 = d at *
      have Hd := Lib.hid hd
      have Hs := Lib.hid hs
      clear hd hs
      by_cases hn : d < 0
      · go_wp2
        go_ret
        exact ⟨by rw [HB.out, Hs.out.1 hn]; rfl, hw⟩
      · by_cases hp : 0 < d
        · go_wp2
          go_ret
          exact ⟨by rw [HB.out, Hs.out.2 hp]; rfl, hw⟩
        · go_wp2
          go_round
          case rel => exact ⟨k + 1, by omega, by go_num, fun j hj => by
            by_cases e : j = k
            · subst e; rw [Hd.out]; omega
            · exact hz.out j (by omega)⟩
          case measure => simp [intOf]; omega
    · go_wp2
      go_ret
      exact ⟨by rw [HB.out, firstSign_end D (fun j hj => hz.out j (by have := HL.out; omega))]; rfl, hw⟩

set_option maxHeartbeats 1000000 in
set_option maxRecDepth 100000 in
theorem better8_any (a b : Agr) (w : World) (ha : a.Fit) (hb' : b.Fit) :
    Calls Tryd.prog 61 #[a.v, b.v] w fun e w' => e = .returned (.int .i64 (better8N a b)) ∧ Ext w w' := by
  obtain ⟨h1, h2, h3, h4⟩ := ha
  obtain ⟨h5, h6, h7, h8⟩ := hb'
  have HB : Hid (better8N a b = firstSign [rankN b - rankN a, b.first - a.first, a.last - b.last]) := rfl
  generalize better8N a b = res at *
  obtain ⟨f1, f2⟩ := rankN_bd a
  obtain ⟨f3, f4⟩ := rankN_bd b
  have R1 := rank_any a
  have R2 := rank_any b
  have hR1 := Lib.hid R1
  have hR2 := Lib.hid R2
  clear R1 R2
  simp only [Agr.v]
  go_enter Tryd.func61, Tryd.ntmps61
  go_wp2_with fail
  apply wp_region_par (by kernel_rfl) (by kernel_rfl) rfl
  first
    | (apply par_val rfl
       · intro w1 hx K hK
         first | (refine wp_and rfl rfl rfl ?_; exact hK _ (Ext.refl _)) | (refine wp_or rfl rfl rfl ?_; exact hK _ (Ext.refl _)) | (obtain ⟨hc, hf⟩ := hx.rules; go_step; (first | exact hK _ (Ext.refl _))))
    | (apply par_skip rfl)
    | (apply par_ct rfl rfl
       · intro hg1 w1 hx K hK
         ((try simp only [hg1, GS] at hK ⊢); first | (refine wp_and rfl rfl rfl ?_; exact hK _ (Ext.refl _)) | (refine wp_or rfl rfl rfl ?_; exact hK _ (Ext.refl _)) | (obtain ⟨hc, hf⟩ := hx.rules; go_step; (first | exact hK _ (Ext.refl _)))))
    | (apply par_cf rfl rfl
       · intro hg1 w1 hx K hK
         ((try simp only [hg1, GS] at hK ⊢); first | (refine wp_and rfl rfl rfl ?_; exact hK _ (Ext.refl _)) | (refine wp_or rfl rfl rfl ?_; exact hK _ (Ext.refl _)) | (obtain ⟨hc, hf⟩ := hx.rules; go_step; (first | exact hK _ (Ext.refl _)))))
    | (apply par_gt rfl rfl
       · intro hg1 hg2 w1 hx K hK
         ((try simp only [hg1, GS] at hK ⊢); (try simp only [hg2, GS] at hK ⊢); first | (refine wp_and rfl rfl rfl ?_; exact hK _ (Ext.refl _)) | (refine wp_or rfl rfl rfl ?_; exact hK _ (Ext.refl _)) | (obtain ⟨hc, hf⟩ := hx.rules; go_step; (first | exact hK _ (Ext.refl _)))))
    | (apply par_gf rfl rfl
       · intro hg1 hg2 w1 hx K hK
         ((try simp only [hg1, GS] at hK ⊢); (try simp only [hg2, GS] at hK ⊢); first | (refine wp_and rfl rfl rfl ?_; exact hK _ (Ext.refl _)) | (refine wp_or rfl rfl rfl ?_; exact hK _ (Ext.refl _)) | (obtain ⟨hc, hf⟩ := hx.rules; go_step; (first | exact hK _ (Ext.refl _)))))
  try simp only [Act.put, List.setIfInBounds_toArray, List.set_cons_zero, List.set_cons_succ]
  first
    | (apply par_val rfl
       · intro w1 hx K hK
         first | (refine wp_and rfl rfl rfl ?_; exact hK _ (Ext.refl _)) | (refine wp_or rfl rfl rfl ?_; exact hK _ (Ext.refl _)) | (obtain ⟨hc, hf⟩ := hx.rules; go_step; (first | exact hK _ (Ext.refl _) | (refine (rank_any b _).mono ?_; rintro e w' ⟨rfl, hx2⟩; exact hK _ hx2))))
    | (apply par_skip rfl)
    | (apply par_ct rfl rfl
       · intro hg1 w1 hx K hK
         ((try simp only [hg1, GS] at hK ⊢); first | (refine wp_and rfl rfl rfl ?_; exact hK _ (Ext.refl _)) | (refine wp_or rfl rfl rfl ?_; exact hK _ (Ext.refl _)) | (obtain ⟨hc, hf⟩ := hx.rules; go_step; (first | exact hK _ (Ext.refl _) | (refine (rank_any b _).mono ?_; rintro e w' ⟨rfl, hx2⟩; exact hK _ hx2)))))
    | (apply par_cf rfl rfl
       · intro hg1 w1 hx K hK
         ((try simp only [hg1, GS] at hK ⊢); first | (refine wp_and rfl rfl rfl ?_; exact hK _ (Ext.refl _)) | (refine wp_or rfl rfl rfl ?_; exact hK _ (Ext.refl _)) | (obtain ⟨hc, hf⟩ := hx.rules; go_step; (first | exact hK _ (Ext.refl _) | (refine (rank_any b _).mono ?_; rintro e w' ⟨rfl, hx2⟩; exact hK _ hx2)))))
    | (apply par_gt rfl rfl
       · intro hg1 hg2 w1 hx K hK
         ((try simp only [hg1, GS] at hK ⊢); (try simp only [hg2, GS] at hK ⊢); first | (refine wp_and rfl rfl rfl ?_; exact hK _ (Ext.refl _)) | (refine wp_or rfl rfl rfl ?_; exact hK _ (Ext.refl _)) | (obtain ⟨hc, hf⟩ := hx.rules; go_step; (first | exact hK _ (Ext.refl _) | (refine (rank_any b _).mono ?_; rintro e w' ⟨rfl, hx2⟩; exact hK _ hx2)))))
    | (apply par_gf rfl rfl
       · intro hg1 hg2 w1 hx K hK
         ((try simp only [hg1, GS] at hK ⊢); (try simp only [hg2, GS] at hK ⊢); first | (refine wp_and rfl rfl rfl ?_; exact hK _ (Ext.refl _)) | (refine wp_or rfl rfl rfl ?_; exact hK _ (Ext.refl _)) | (obtain ⟨hc, hf⟩ := hx.rules; go_step; (first | exact hK _ (Ext.refl _) | (refine (rank_any b _).mono ?_; rintro e w' ⟨rfl, hx2⟩; exact hK _ hx2)))))
  try simp only [Act.put, List.setIfInBounds_toArray, List.set_cons_zero, List.set_cons_succ]
  first
    | (apply par_val rfl
       · intro w1 hx K hK
         first | (refine wp_and rfl rfl rfl ?_; exact hK _ (Ext.refl _)) | (refine wp_or rfl rfl rfl ?_; exact hK _ (Ext.refl _)) | (obtain ⟨hc, hf⟩ := hx.rules; go_step; (first | exact hK _ (Ext.refl _))))
    | (apply par_skip rfl)
    | (apply par_ct rfl rfl
       · intro hg1 w1 hx K hK
         ((try simp only [hg1, GS] at hK ⊢); first | (refine wp_and rfl rfl rfl ?_; exact hK _ (Ext.refl _)) | (refine wp_or rfl rfl rfl ?_; exact hK _ (Ext.refl _)) | (obtain ⟨hc, hf⟩ := hx.rules; go_step; (first | exact hK _ (Ext.refl _)))))
    | (apply par_cf rfl rfl
       · intro hg1 w1 hx K hK
         ((try simp only [hg1, GS] at hK ⊢); first | (refine wp_and rfl rfl rfl ?_; exact hK _ (Ext.refl _)) | (refine wp_or rfl rfl rfl ?_; exact hK _ (Ext.refl _)) | (obtain ⟨hc, hf⟩ := hx.rules; go_step; (first | exact hK _ (Ext.refl _)))))
    | (apply par_gt rfl rfl
       · intro hg1 hg2 w1 hx K hK
         ((try simp only [hg1, GS] at hK ⊢); (try simp only [hg2, GS] at hK ⊢); first | (refine wp_and rfl rfl rfl ?_; exact hK _ (Ext.refl _)) | (refine wp_or rfl rfl rfl ?_; exact hK _ (Ext.refl _)) | (obtain ⟨hc, hf⟩ := hx.rules; go_step; (first | exact hK _ (Ext.refl _)))))
    | (apply par_gf rfl rfl
       · intro hg1 hg2 w1 hx K hK
         ((try simp only [hg1, GS] at hK ⊢); (try simp only [hg2, GS] at hK ⊢); first | (refine wp_and rfl rfl rfl ?_; exact hK _ (Ext.refl _)) | (refine wp_or rfl rfl rfl ?_; exact hK _ (Ext.refl _)) | (obtain ⟨hc, hf⟩ := hx.rules; go_step; (first | exact hK _ (Ext.refl _)))))
  try simp only [Act.put, List.setIfInBounds_toArray, List.set_cons_zero, List.set_cons_succ]
  first
    | (apply par_val rfl
       · intro w1 hx K hK
         first | (refine wp_and rfl rfl rfl ?_; exact hK _ (Ext.refl _)) | (refine wp_or rfl rfl rfl ?_; exact hK _ (Ext.refl _)) | (obtain ⟨hc, hf⟩ := hx.rules; go_step; (first | exact hK _ (Ext.refl _) | (refine (rank_any a _).mono ?_; rintro e w' ⟨rfl, hx2⟩; exact hK _ hx2))))
    | (apply par_skip rfl)
    | (apply par_ct rfl rfl
       · intro hg1 w1 hx K hK
         ((try simp only [hg1, GS] at hK ⊢); first | (refine wp_and rfl rfl rfl ?_; exact hK _ (Ext.refl _)) | (refine wp_or rfl rfl rfl ?_; exact hK _ (Ext.refl _)) | (obtain ⟨hc, hf⟩ := hx.rules; go_step; (first | exact hK _ (Ext.refl _) | (refine (rank_any a _).mono ?_; rintro e w' ⟨rfl, hx2⟩; exact hK _ hx2)))))
    | (apply par_cf rfl rfl
       · intro hg1 w1 hx K hK
         ((try simp only [hg1, GS] at hK ⊢); first | (refine wp_and rfl rfl rfl ?_; exact hK _ (Ext.refl _)) | (refine wp_or rfl rfl rfl ?_; exact hK _ (Ext.refl _)) | (obtain ⟨hc, hf⟩ := hx.rules; go_step; (first | exact hK _ (Ext.refl _) | (refine (rank_any a _).mono ?_; rintro e w' ⟨rfl, hx2⟩; exact hK _ hx2)))))
    | (apply par_gt rfl rfl
       · intro hg1 hg2 w1 hx K hK
         ((try simp only [hg1, GS] at hK ⊢); (try simp only [hg2, GS] at hK ⊢); first | (refine wp_and rfl rfl rfl ?_; exact hK _ (Ext.refl _)) | (refine wp_or rfl rfl rfl ?_; exact hK _ (Ext.refl _)) | (obtain ⟨hc, hf⟩ := hx.rules; go_step; (first | exact hK _ (Ext.refl _) | (refine (rank_any a _).mono ?_; rintro e w' ⟨rfl, hx2⟩; exact hK _ hx2)))))
    | (apply par_gf rfl rfl
       · intro hg1 hg2 w1 hx K hK
         ((try simp only [hg1, GS] at hK ⊢); (try simp only [hg2, GS] at hK ⊢); first | (refine wp_and rfl rfl rfl ?_; exact hK _ (Ext.refl _)) | (refine wp_or rfl rfl rfl ?_; exact hK _ (Ext.refl _)) | (obtain ⟨hc, hf⟩ := hx.rules; go_step; (first | exact hK _ (Ext.refl _) | (refine (rank_any a _).mono ?_; rintro e w' ⟨rfl, hx2⟩; exact hK _ hx2)))))
  try simp only [Act.put, List.setIfInBounds_toArray, List.set_cons_zero, List.set_cons_succ]
  repeat
    first
      | (apply par_val rfl
         · intro w1 hx K hK
           first | (refine wp_and rfl rfl rfl ?_; exact hK _ (Ext.refl _)) | (refine wp_or rfl rfl rfl ?_; exact hK _ (Ext.refl _)) | (obtain ⟨hc, hf⟩ := hx.rules; go_step; (first | exact hK _ (Ext.refl _))))
      | (apply par_skip rfl)
      | (apply par_ct rfl rfl
         · intro hg1 w1 hx K hK
           ((try simp only [hg1, GS] at hK ⊢); first | (refine wp_and rfl rfl rfl ?_; exact hK _ (Ext.refl _)) | (refine wp_or rfl rfl rfl ?_; exact hK _ (Ext.refl _)) | (obtain ⟨hc, hf⟩ := hx.rules; go_step; (first | exact hK _ (Ext.refl _)))))
      | (apply par_cf rfl rfl
         · intro hg1 w1 hx K hK
           ((try simp only [hg1, GS] at hK ⊢); first | (refine wp_and rfl rfl rfl ?_; exact hK _ (Ext.refl _)) | (refine wp_or rfl rfl rfl ?_; exact hK _ (Ext.refl _)) | (obtain ⟨hc, hf⟩ := hx.rules; go_step; (first | exact hK _ (Ext.refl _)))))
      | (apply par_gt rfl rfl
         · intro hg1 hg2 w1 hx K hK
           ((try simp only [hg1, GS] at hK ⊢); (try simp only [hg2, GS] at hK ⊢); first | (refine wp_and rfl rfl rfl ?_; exact hK _ (Ext.refl _)) | (refine wp_or rfl rfl rfl ?_; exact hK _ (Ext.refl _)) | (obtain ⟨hc, hf⟩ := hx.rules; go_step; (first | exact hK _ (Ext.refl _)))))
      | (apply par_gf rfl rfl
         · intro hg1 hg2 w1 hx K hK
           ((try simp only [hg1, GS] at hK ⊢); (try simp only [hg2, GS] at hK ⊢); first | (refine wp_and rfl rfl rfl ?_; exact hK _ (Ext.refl _)) | (refine wp_or rfl rfl rfl ?_; exact hK _ (Ext.refl _)) | (obtain ⟨hc, hf⟩ := hx.rules; go_step; (first | exact hK _ (Ext.refl _)))))
    try simp only [Act.put, List.setIfInBounds_toArray, List.set_cons_zero, List.set_cons_succ]
  apply par_unk (s := Spec.blk (fun b => .slice (some ⟨b, 0, none⟩) 3 3) 3 _) rfl
  · intro w1 hx _ K hK
    go_step
    exact hK (w1.heap.size, 0, undef) _ (Blk.new _ _ _) (Ext.alloc _ _)
  intro u
  obtain ⟨g, u1, u2⟩ := u
  simp only [Spec.blk]
  try simp only [Act.put, List.setIfInBounds_toArray, List.set_cons_zero, List.set_cons_succ]
  repeat
    first
      | (apply par_val rfl
         · intro w1 hx K hK
           first | (refine wp_and rfl rfl rfl ?_; exact hK _ (Ext.refl _)) | (refine wp_or rfl rfl rfl ?_; exact hK _ (Ext.refl _)) | (obtain ⟨hc, hf⟩ := hx.rules; go_step; (first | exact hK _ (Ext.refl _))))
      | (apply par_skip rfl)
      | (apply par_ct rfl rfl
         · intro hg1 w1 hx K hK
           ((try simp only [hg1, GS] at hK ⊢); first | (refine wp_and rfl rfl rfl ?_; exact hK _ (Ext.refl _)) | (refine wp_or rfl rfl rfl ?_; exact hK _ (Ext.refl _)) | (obtain ⟨hc, hf⟩ := hx.rules; go_step; (first | exact hK _ (Ext.refl _)))))
      | (apply par_cf rfl rfl
         · intro hg1 w1 hx K hK
           ((try simp only [hg1, GS] at hK ⊢); first | (refine wp_and rfl rfl rfl ?_; exact hK _ (Ext.refl _)) | (refine wp_or rfl rfl rfl ?_; exact hK _ (Ext.refl _)) | (obtain ⟨hc, hf⟩ := hx.rules; go_step; (first | exact hK _ (Ext.refl _)))))
      | (apply par_gt rfl rfl
         · intro hg1 hg2 w1 hx K hK
           ((try simp only [hg1, GS] at hK ⊢); (try simp only [hg2, GS] at hK ⊢); first | (refine wp_and rfl rfl rfl ?_; exact hK _ (Ext.refl _)) | (refine wp_or rfl rfl rfl ?_; exact hK _ (Ext.refl _)) | (obtain ⟨hc, hf⟩ := hx.rules; go_step; (first | exact hK _ (Ext.refl _)))))
      | (apply par_gf rfl rfl
         · intro hg1 hg2 w1 hx K hK
           ((try simp only [hg1, GS] at hK ⊢); (try simp only [hg2, GS] at hK ⊢); first | (refine wp_and rfl rfl rfl ?_; exact hK _ (Ext.refl _)) | (refine wp_or rfl rfl rfl ?_; exact hK _ (Ext.refl _)) | (obtain ⟨hc, hf⟩ := hx.rules; go_step; (first | exact hK _ (Ext.refl _)))))
    try simp only [Act.put, List.setIfInBounds_toArray, List.set_cons_zero, List.set_cons_succ]
  apply par_nil
  intro w1 hx hfs
  have hb := hfs _ (List.mem_of_getElem? (i := 15) rfl)
  clear hfs
  have hw : Ext w w1 := (Ext.alloc _ _).trans ((Ext.alloc _ _).trans hx)
  clear hx
  generalize hD : [rankN b - rankN a, b.first - a.first, a.last - b.last] = D at *
  have hl : D.length = 3 := by rw [← hD]; rfl
  have hcell : ∀ k, k < 3 → w1.cell? ⟨g, k, none⟩ = some (.int .i64 (D.getD k 0)) := by
    intro k hk
    rw [hb.cell k, ← hD]
    match k, hk with
    | 0, _ => rfl
    | 1, _ => rfl
    | 2, _ => rfl
  have HL := Lib.hid hl
  have HC := Lib.hid hcell
  clear hb h1 h2 h3 h4 h5 h6 h7 h8 f1 f2 f3 f4 hD hl hcell
  go_wp2
  go_loop [24] (fun i => ∃ k : Nat, k ≤ 3 ∧ i = .int .i64 k ∧ Hid (∀ j, j < k → D.getD j 0 = 0)) (fun i => 3 - (intOf i).toNat)
  case atStart => exact ⟨0, by omega, rfl, fun j hj => by omega⟩
  case round =>
    obtain ⟨k, hk, rfl, hz⟩ := hrel
    by_cases hlt : k < 3
    · have hc := HC.out k hlt
      have hs := firstSign_at D k hz.out (by have := HL.out; omega)
      generalize hd : D.getD k 0 = d at *
      have Hd := Lib.hid hd
      have Hs := Lib.hid hs
      clear hd hs
      by_cases hn : d < 0
      · go_wp2
        go_ret
        exact ⟨by rw [HB.out, Hs.out.1 hn]; rfl, hw⟩
      · by_cases hp : 0 < d
        · go_wp2
          go_ret
          exact ⟨by rw [HB.out, Hs.out.2 hp]; rfl, hw⟩
        · go_wp2
          go_round
          case rel => exact ⟨k + 1, by omega, by go_num, fun j hj => by
            by_cases e : j = k
            · subst e; rw [Hd.out]; omega
            · exact hz.out j (by omega)⟩
          case measure => simp [intOf]; omega
    · go_wp2
      go_ret
      exact ⟨by rw [HB.out, firstSign_end D (fun j hj => hz.out j (by have := HL.out; omega))]; rfl, hw⟩
end Go.Proofs.YtdopillligfdiaaDoor
