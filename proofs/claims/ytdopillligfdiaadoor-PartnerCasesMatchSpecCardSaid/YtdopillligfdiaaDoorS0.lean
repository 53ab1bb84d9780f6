/- Contracts: series and the next number; awake. -/
import Derived.Test.YtdopillligfdiaaDoorA0
namespace Go.Proofs.YtdopillligfdiaaDoor
set_option linter.unusedSimpArgs false
set_option linter.unusedVariables false
open Go.RowKit
set_option maxRecDepth 100000
set_option maxHeartbeats 2000000

theorem series_wrap (s : Ser) : (outB s.first 0 999999999999999 || outB s.last (RowKit.wrap64 (s.first + 1)) 999999999999999) = (outB s.first 0 999999999999999 || outB s.last (s.first + 1) 999999999999999) := by
  cases h : outB s.first 0 999999999999999
  · simp only [outB, Bool.or_eq_false_iff, decide_eq_false_iff_not] at h
    rw [IntWalk.wrap64_in _ (by omega)]
  · rfl
theorem series_ok (s : Ser) (h : seriesFaultN s = 0) : 0 ≤ s.first ∧ s.first < s.last ∧ s.last ≤ 999999999999999 := by
  unfold seriesFaultN at h
  split at h
  · cases h
  · rename_i h3
    simp only [outB, Bool.or_eq_true, not_or, decide_eq_true_eq] at h3
    omega
theorem seriesFault_01 (s : Ser) : seriesFaultN s = 0 ∨ seriesFaultN s = 1 := by unfold seriesFaultN; split <;> simp
theorem isOf_bd (s : Ser) (n : Int) : isOfB s n = true ↔ s.first ≤ n ∧ n ≤ s.last := by
  simp [isOfB, outB]
theorem checkSeries_any (s : Ser) (w : World) :
    Calls Tryd.prog 97 #[s.v] w fun e w' => e = .returned (.int .i64 (seriesFaultN s)) ∧ Ext w w' := by
  have HE := Lib.hid (series_wrap s)
  go_enter Tryd.func97, Tryd.ntmps97
  repeat' (
      first
        | ((with_reducible apply wp_seq_k); intro K hK)
        | (simp only [Exit.then, Exit.inBlock, ↓reduceIte, Nat.reduceEqDiff])
        | with_reducible apply wp_block
        | with_reducible apply wp_skip
        | with_reducible apply wp_exit
        | ((with_reducible apply wp_cond_true); (focus exact rfl))
        | ((with_reducible apply wp_cond_false); (focus exact rfl))
        | (((with_reducible apply wp_cond_split); (focus exact rfl)) <;> intro hb <;> (try simp only [bne_iff_ne, ne_eq, bne_eq_false_iff_eq, beq_iff_eq, beq_eq_false_iff_ne, decide_eq_true_eq, decide_eq_false_iff_not, Bool.not_eq_true', Bool.not_eq_false', Bool.and_eq_true, Bool.or_eq_true, Bool.and_eq_false_iff, Bool.or_eq_false_iff, Int.not_lt, Int.not_le, Bool.not_eq_true, Bool.not_eq_false] at hb) <;> (try (have hbl := And.left hb; have hbr := And.right hb)) <;> (try (have hbll := And.left hbl; have hblr := And.right hbl)) <;> (try first | contradiction | exact (bff hb (by assumption)).elim | exact (bft hb (by assumption)).elim | (exfalso; omega)))
        | ((with_reducible apply (wp_region_lit (id := 0)))
           ((with_reducible apply l_boxN); (focus exact rfl); intro g1 w1 hb1 hx1 hg1; (try simp only [SS, Nat.reduceAdd]))
           ((with_reducible apply l_assign); (focus (first | (simp only [EE]; done) | (simp only [EE]; exact rfl) | exact rfl)); (try simp only [SS, Nat.reduceAdd]))
           (with_reducible apply wpList_nil))
        | ((with_reducible apply (wp_region_seq (id := 1)))
           ((with_reducible apply p_fieldAddr); (focus exact rfl); (try simp only [SS, Nat.reduceAdd]))
           ((with_reducible apply p_load1); (focus exact rfl); (focus (first | assumption | ((apply cx); (focus assumption); (focus (repeat (first | exact xr _ | assumption | (apply xt; assumption)))); done) | ((first | (apply cb; assumption) | (apply c0; assumption) | (apply cr; assumption) | (apply cp; assumption)); (focus (repeat (first | exact xr _ | assumption | (apply xt; assumption)))); exact rfl))); (try simp only [SS, Nat.reduceAdd]))
           ((with_reducible apply p_enter); (focus (first | (simp only [EE]; done) | (simp only [EE]; exact rfl) | exact rfl)); first | ((focus (intro w1 hw1; (with_reducible refine (outside_any _ _ _ _).mono ?_);  rintro e w5 ⟨rfl, hx5⟩; exact ⟨rfl, hx5⟩)); (try simp only [SS, Nat.reduceAdd])))
           ((with_reducible apply p_move); (focus (first | (simp only [EE]; done) | (simp only [EE]; exact rfl) | exact rfl)); (try simp only [SS, Nat.reduceAdd]))
           ((with_reducible apply par_cf); (focus exact rfl); (focus exact rfl); (focus (intro hg1 w1 hx K hK; have hq1 := hg1; (try simp only [decide_eq_true_eq, decide_eq_false_iff_not, Int.not_lt, Int.not_le] at hq1); (try simp only [hg1, GS2] at hK ⊢); ((with_reducible apply r_fieldAddr); (focus exact rfl); exact hK _ (Ext.refl _)))); (try simp only [SS, Nat.reduceAdd]))
           ((with_reducible apply par_cf); (focus exact rfl); (focus exact rfl); (focus (intro hg1 w1 hx K hK; have hq1 := hg1; (try simp only [decide_eq_true_eq, decide_eq_false_iff_not, Int.not_lt, Int.not_le] at hq1); (try simp only [hg1, GS2] at hK ⊢); ((with_reducible apply r_load1); (focus exact rfl); (focus (first | assumption | ((apply cx); (focus assumption); (focus (repeat (first | exact xr _ | assumption | (apply xt; assumption)))); done) | ((first | (apply cb; assumption) | (apply c0; assumption) | (apply cr; assumption) | (apply cp; assumption)); (focus (repeat (first | exact xr _ | assumption | (apply xt; assumption)))); exact rfl))); exact hK _ (Ext.refl _)))); (try simp only [SS, Nat.reduceAdd]))
           ((with_reducible apply par_cf); (focus exact rfl); (focus exact rfl); (focus (intro hg1 w1 hx K hK; have hq1 := hg1; (try simp only [decide_eq_true_eq, decide_eq_false_iff_not, Int.not_lt, Int.not_le] at hq1); (try simp only [hg1, GS2] at hK ⊢); ((with_reducible apply r_fieldAddr); (focus exact rfl); exact hK _ (Ext.refl _)))); (try simp only [SS, Nat.reduceAdd]))
           ((with_reducible apply par_cf); (focus exact rfl); (focus exact rfl); (focus (intro hg1 w1 hx K hK; have hq1 := hg1; (try simp only [decide_eq_true_eq, decide_eq_false_iff_not, Int.not_lt, Int.not_le] at hq1); (try simp only [hg1, GS2] at hK ⊢); ((with_reducible apply r_load1); (focus exact rfl); (focus (first | assumption | ((apply cx); (focus assumption); (focus (repeat (first | exact xr _ | assumption | (apply xt; assumption)))); done) | ((first | (apply cb; assumption) | (apply c0; assumption) | (apply cr; assumption) | (apply cp; assumption)); (focus (repeat (first | exact xr _ | assumption | (apply xt; assumption)))); exact rfl))); exact hK _ (Ext.refl _)))); (try simp only [SS, Nat.reduceAdd]))
           ((with_reducible apply par_cf); (focus exact rfl); (focus exact rfl); (focus (intro hg1 w1 hx K hK; have hq1 := hg1; (try simp only [decide_eq_true_eq, decide_eq_false_iff_not, Int.not_lt, Int.not_le] at hq1); (try simp only [hg1, GS2] at hK ⊢); ((with_reducible apply r_add); (focus exact rfl); (focus exact rfl); (focus (first | (apply IntWalk.i64_in; omega) | exact IntWalk.i64_left _)); exact hK _ (Ext.refl _)))); (try simp only [SS, Nat.reduceAdd]))
           ((with_reducible apply par_cf); (focus exact rfl); (focus exact rfl); (focus (intro hg1 w1 hx K hK; have hq1 := hg1; (try simp only [decide_eq_true_eq, decide_eq_false_iff_not, Int.not_lt, Int.not_le] at hq1); (try simp only [hg1, GS2] at hK ⊢); ((with_reducible apply r_enter); (focus (first | (simp only [EE]; done) | (simp only [EE]; exact rfl) | exact rfl)); first | ((with_reducible refine (outside_any _ _ _ _).mono ?_);  rintro e w12 ⟨rfl, hx12⟩; exact hK _ hx12)))); (try simp only [SS, Nat.reduceAdd]))
           ((with_reducible apply p_or); (focus exact rfl); (focus exact rfl); (try simp only [SS, Nat.reduceAdd]))
           ((with_reducible apply par_nil); intro v1 hv1 _))
        | ((with_reducible apply (wp_region_lit (id := 2)))
           ((with_reducible apply l_assign); (focus (first | (simp only [EE]; done) | (simp only [EE]; exact rfl) | exact rfl)); (try simp only [SS, Nat.reduceAdd]))
           (with_reducible apply wpList_nil))
        | ((with_reducible apply (wp_region_lit (id := 3)))
           ((with_reducible apply l_assign); (focus (first | (simp only [EE]; done) | (simp only [EE]; exact rfl) | exact rfl)); (try simp only [SS, Nat.reduceAdd]))
           (with_reducible apply wpList_nil))
        | ((fail_if_success (with_reducible apply no_region)); (fail_if_success (with_reducible apply no_list)); (fail_if_success (with_reducible apply no_oper)); (fail_if_success (with_reducible apply no_par)); (fail_if_success (with_reducible apply no_loop)); go_step))
  all_goals
    have h1 := HE.out
    go_ret
    refine ⟨ret_int ?_, (by (focus (repeat (first | exact xr _ | assumption | (apply xt; assumption)))))⟩
    unfold seriesFaultN
    rw [← h1]
    first
      | (rcases hb with hb | hb <;> simp [hb]; done)
      | simp [hb.1, hb.2]
theorem checkSeries8_any (s : Ser) (w : World) :
    Calls Tryd.prog 109 #[s.v] w fun e w' => e = .returned (.int .i64 (seriesFaultN s)) ∧ Ext w w' := by
  have HE := Lib.hid (series_wrap s)
  go_enter Tryd.func109, Tryd.ntmps109
  repeat' (
      first
        | ((with_reducible apply wp_seq_k); intro K hK)
        | (simp only [Exit.then, Exit.inBlock, ↓reduceIte, Nat.reduceEqDiff])
        | with_reducible apply wp_block
        | with_reducible apply wp_skip
        | with_reducible apply wp_exit
        | ((with_reducible apply wp_cond_true); (focus exact rfl))
        | ((with_reducible apply wp_cond_false); (focus exact rfl))
        | (((with_reducible apply wp_cond_split); (focus exact rfl)) <;> intro hb <;> (try simp only [bne_iff_ne, ne_eq, bne_eq_false_iff_eq, beq_iff_eq, beq_eq_false_iff_ne, decide_eq_true_eq, decide_eq_false_iff_not, Bool.not_eq_true', Bool.not_eq_false', Bool.and_eq_true, Bool.or_eq_true, Bool.and_eq_false_iff, Bool.or_eq_false_iff, Int.not_lt, Int.not_le, Bool.not_eq_true, Bool.not_eq_false] at hb) <;> (try (have hbl := And.left hb; have hbr := And.right hb)) <;> (try (have hbll := And.left hbl; have hblr := And.right hbl)) <;> (try first | contradiction | exact (bff hb (by assumption)).elim | exact (bft hb (by assumption)).elim | (exfalso; omega)))
        | ((with_reducible apply (wp_region_lit (id := 0)))
           ((with_reducible apply l_boxN); (focus exact rfl); intro g1 w1 hb1 hx1 hg1; (try simp only [SS, Nat.reduceAdd]))
           ((with_reducible apply l_assign); (focus (first | (simp only [EE]; done) | (simp only [EE]; exact rfl) | exact rfl)); (try simp only [SS, Nat.reduceAdd]))
           (with_reducible apply wpList_nil))
        | ((with_reducible apply (wp_region_seq (id := 1)))
           ((with_reducible apply p_fieldAddr); (focus exact rfl); (try simp only [SS, Nat.reduceAdd]))
           ((with_reducible apply p_load1); (focus exact rfl); (focus (first | assumption | ((apply cx); (focus assumption); (focus (repeat (first | exact xr _ | assumption | (apply xt; assumption)))); done) | ((first | (apply cb; assumption) | (apply c0; assumption) | (apply cr; assumption) | (apply cp; assumption)); (focus (repeat (first | exact xr _ | assumption | (apply xt; assumption)))); exact rfl))); (try simp only [SS, Nat.reduceAdd]))
           ((with_reducible apply p_enter); (focus (first | (simp only [EE]; done) | (simp only [EE]; exact rfl) | exact rfl)); first | ((focus (intro w1 hw1; (with_reducible refine (within_any _ _ _ _).mono ?_);  rintro e w5 ⟨rfl, hx5⟩; exact ⟨rfl, hx5⟩)); (try simp only [SS, Nat.reduceAdd])))
           ((with_reducible apply p_not); (focus exact rfl); (try simp only [SS, Nat.reduceAdd]))
           ((with_reducible apply p_move); (focus (first | (simp only [EE]; done) | (simp only [EE]; exact rfl) | exact rfl)); (try simp only [SS, Nat.reduceAdd]))
           ((with_reducible apply par_cf); (focus exact rfl); (focus exact rfl); (focus (intro hg1 w1 hx K hK; have hq1 := hg1; (try simp only [decide_eq_true_eq, decide_eq_false_iff_not, Int.not_lt, Int.not_le] at hq1); (try simp only [hg1, GS2] at hK ⊢); ((with_reducible apply r_fieldAddr); (focus exact rfl); exact hK _ (Ext.refl _)))); (try simp only [SS, Nat.reduceAdd]))
           ((with_reducible apply par_cf); (focus exact rfl); (focus exact rfl); (focus (intro hg1 w1 hx K hK; have hq1 := hg1; (try simp only [decide_eq_true_eq, decide_eq_false_iff_not, Int.not_lt, Int.not_le] at hq1); (try simp only [hg1, GS2] at hK ⊢); ((with_reducible apply r_load1); (focus exact rfl); (focus (first | assumption | ((apply cx); (focus assumption); (focus (repeat (first | exact xr _ | assumption | (apply xt; assumption)))); done) | ((first | (apply cb; assumption) | (apply c0; assumption) | (apply cr; assumption) | (apply cp; assumption)); (focus (repeat (first | exact xr _ | assumption | (apply xt; assumption)))); exact rfl))); exact hK _ (Ext.refl _)))); (try simp only [SS, Nat.reduceAdd]))
           ((with_reducible apply par_cf); (focus exact rfl); (focus exact rfl); (focus (intro hg1 w1 hx K hK; have hq1 := hg1; (try simp only [decide_eq_true_eq, decide_eq_false_iff_not, Int.not_lt, Int.not_le] at hq1); (try simp only [hg1, GS2] at hK ⊢); ((with_reducible apply r_fieldAddr); (focus exact rfl); exact hK _ (Ext.refl _)))); (try simp only [SS, Nat.reduceAdd]))
           ((with_reducible apply par_cf); (focus exact rfl); (focus exact rfl); (focus (intro hg1 w1 hx K hK; have hq1 := hg1; (try simp only [decide_eq_true_eq, decide_eq_false_iff_not, Int.not_lt, Int.not_le] at hq1); (try simp only [hg1, GS2] at hK ⊢); ((with_reducible apply r_load1); (focus exact rfl); (focus (first | assumption | ((apply cx); (focus assumption); (focus (repeat (first | exact xr _ | assumption | (apply xt; assumption)))); done) | ((first | (apply cb; assumption) | (apply c0; assumption) | (apply cr; assumption) | (apply cp; assumption)); (focus (repeat (first | exact xr _ | assumption | (apply xt; assumption)))); exact rfl))); exact hK _ (Ext.refl _)))); (try simp only [SS, Nat.reduceAdd]))
           ((with_reducible apply par_cf); (focus exact rfl); (focus exact rfl); (focus (intro hg1 w1 hx K hK; have hq1 := hg1; (try simp only [decide_eq_true_eq, decide_eq_false_iff_not, Int.not_lt, Int.not_le] at hq1); (try simp only [hg1, GS2] at hK ⊢); ((with_reducible apply r_add); (focus exact rfl); (focus exact rfl); (focus (first | (apply IntWalk.i64_in; omega) | exact IntWalk.i64_left _)); exact hK _ (Ext.refl _)))); (try simp only [SS, Nat.reduceAdd]))
           ((with_reducible apply par_cf); (focus exact rfl); (focus exact rfl); (focus (intro hg1 w1 hx K hK; have hq1 := hg1; (try simp only [decide_eq_true_eq, decide_eq_false_iff_not, Int.not_lt, Int.not_le] at hq1); (try simp only [hg1, GS2] at hK ⊢); ((with_reducible apply r_enter); (focus (first | (simp only [EE]; done) | (simp only [EE]; exact rfl) | exact rfl)); first | ((with_reducible refine (within_any _ _ _ _).mono ?_);  rintro e w13 ⟨rfl, hx13⟩; exact hK _ hx13)))); (try simp only [SS, Nat.reduceAdd]))
           ((with_reducible apply par_cf); (focus exact rfl); (focus exact rfl); (focus (intro hg1 w1 hx K hK; have hq1 := hg1; (try simp only [decide_eq_true_eq, decide_eq_false_iff_not, Int.not_lt, Int.not_le] at hq1); (try simp only [hg1, GS2] at hK ⊢); ((with_reducible apply r_not); (focus exact rfl); exact hK _ (Ext.refl _)))); (try simp only [SS, Nat.reduceAdd]))
           ((with_reducible apply p_or); (focus exact rfl); (focus exact rfl); (try simp only [SS, Nat.reduceAdd]))
           ((with_reducible apply par_nil); intro v1 hv1 _))
        | ((with_reducible apply (wp_region_lit (id := 2)))
           ((with_reducible apply l_assign); (focus (first | (simp only [EE]; done) | (simp only [EE]; exact rfl) | exact rfl)); (try simp only [SS, Nat.reduceAdd]))
           (with_reducible apply wpList_nil))
        | ((with_reducible apply (wp_region_lit (id := 3)))
           ((with_reducible apply l_assign); (focus (first | (simp only [EE]; done) | (simp only [EE]; exact rfl) | exact rfl)); (try simp only [SS, Nat.reduceAdd]))
           (with_reducible apply wpList_nil))
        | ((fail_if_success (with_reducible apply no_region)); (fail_if_success (with_reducible apply no_list)); (fail_if_success (with_reducible apply no_oper)); (fail_if_success (with_reducible apply no_par)); (fail_if_success (with_reducible apply no_loop)); go_step))
  all_goals
    have h1 := HE.out
    go_ret
    refine ⟨ret_int ?_, (by (focus (repeat (first | exact xr _ | assumption | (apply xt; assumption)))))⟩
    unfold seriesFaultN
    rw [← h1]
    first
      | (rcases hb with hb | hb <;> simp [hb]; done)
      | simp [hb.1, hb.2]
theorem isOf_any (s : Ser) (n : Int) (w : World) : Calls Tryd.prog 98 #[s.v, .int .i64 n] w fun e w' => e = .returned (.bool (isOfB s n)) ∧ Ext w w' := by
  go_enter Tryd.func98, Tryd.ntmps98
  repeat' (
      first
        | ((with_reducible apply wp_seq_k); intro K hK)
        | (simp only [Exit.then, Exit.inBlock, ↓reduceIte, Nat.reduceEqDiff])
        | with_reducible apply wp_block
        | with_reducible apply wp_skip
        | with_reducible apply wp_exit
        | ((with_reducible apply wp_cond_true); (focus exact rfl))
        | ((with_reducible apply wp_cond_false); (focus exact rfl))
        | (((with_reducible apply wp_cond_split); (focus exact rfl)) <;> intro hb <;> (try simp only [bne_iff_ne, ne_eq, bne_eq_false_iff_eq, beq_iff_eq, beq_eq_false_iff_ne, decide_eq_true_eq, decide_eq_false_iff_not, Bool.not_eq_true', Bool.not_eq_false', Bool.and_eq_true, Bool.or_eq_true, Bool.and_eq_false_iff, Bool.or_eq_false_iff, Int.not_lt, Int.not_le, Bool.not_eq_true, Bool.not_eq_false] at hb) <;> (try (have hbl := And.left hb; have hbr := And.right hb)) <;> (try (have hbll := And.left hbl; have hblr := And.right hbl)) <;> (try first | contradiction | exact (bff hb (by assumption)).elim | exact (bft hb (by assumption)).elim | (exfalso; omega)))
        | ((with_reducible apply (wp_region_lit (id := 0)))
           ((with_reducible apply l_boxN); (focus exact rfl); intro g2 w2 hb2 hx2 hg2; (try simp only [SS, Nat.reduceAdd]))
           ((with_reducible apply l_assign); (focus (first | (simp only [EE]; done) | (simp only [EE]; exact rfl) | exact rfl)); (try simp only [SS, Nat.reduceAdd]))
           (with_reducible apply wpList_nil))
        | ((with_reducible apply (wp_region_lit (id := 1)))
           ((with_reducible apply l_move); (focus (first | (simp only [EE]; done) | (simp only [EE]; exact rfl) | exact rfl)); (try simp only [SS, Nat.reduceAdd]))
           ((with_reducible apply l_fieldAddr); (focus exact rfl); (try simp only [SS, Nat.reduceAdd]))
           ((with_reducible apply l_load1); (focus exact rfl); (focus (first | assumption | ((apply cx); (focus assumption); (focus (repeat (first | exact xr _ | assumption | (apply xt; assumption)))); done) | ((first | (apply cb; assumption) | (apply c0; assumption) | (apply cr; assumption) | (apply cp; assumption)); (focus (repeat (first | exact xr _ | assumption | (apply xt; assumption)))); exact rfl))); (try simp only [SS, Nat.reduceAdd]))
           ((with_reducible apply l_fieldAddr); (focus exact rfl); (try simp only [SS, Nat.reduceAdd]))
           ((with_reducible apply l_load1); (focus exact rfl); (focus (first | assumption | ((apply cx); (focus assumption); (focus (repeat (first | exact xr _ | assumption | (apply xt; assumption)))); done) | ((first | (apply cb; assumption) | (apply c0; assumption) | (apply cr; assumption) | (apply cp; assumption)); (focus (repeat (first | exact xr _ | assumption | (apply xt; assumption)))); exact rfl))); (try simp only [SS, Nat.reduceAdd]))
           ((with_reducible apply l_enter); (focus (first | (simp only [EE]; done) | (simp only [EE]; exact rfl) | exact rfl)); first | ((with_reducible refine (outside_any _ _ _ _).mono ?_);  rintro e w10 ⟨rfl, hx10⟩; (try simp only []); (try simp only [SS, Nat.reduceAdd])))
           ((with_reducible apply l_not); (focus exact rfl); (try simp only [SS, Nat.reduceAdd]))
           ((with_reducible apply l_assign); (focus (first | (simp only [EE]; done) | (simp only [EE]; exact rfl) | exact rfl)); (try simp only [SS, Nat.reduceAdd]))
           (with_reducible apply wpList_nil))
        | ((fail_if_success (with_reducible apply no_region)); (fail_if_success (with_reducible apply no_list)); (fail_if_success (with_reducible apply no_oper)); (fail_if_success (with_reducible apply no_par)); (fail_if_success (with_reducible apply no_loop)); go_step))
  go_ret
  exact ⟨rfl, (by (focus (repeat (first | exact xr _ | assumption | (apply xt; assumption)))))⟩
theorem isOf8_any (s : Ser) (n : Int) (w : World) : Calls Tryd.prog 110 #[s.v, .int .i64 n] w fun e w' => e = .returned (.bool (isOfB s n)) ∧ Ext w w' := by
  go_enter Tryd.func110, Tryd.ntmps110
  repeat' (
      first
        | ((with_reducible apply wp_seq_k); intro K hK)
        | (simp only [Exit.then, Exit.inBlock, ↓reduceIte, Nat.reduceEqDiff])
        | with_reducible apply wp_block
        | with_reducible apply wp_skip
        | with_reducible apply wp_exit
        | ((with_reducible apply wp_cond_true); (focus exact rfl))
        | ((with_reducible apply wp_cond_false); (focus exact rfl))
        | (((with_reducible apply wp_cond_split); (focus exact rfl)) <;> intro hb <;> (try simp only [bne_iff_ne, ne_eq, bne_eq_false_iff_eq, beq_iff_eq, beq_eq_false_iff_ne, decide_eq_true_eq, decide_eq_false_iff_not, Bool.not_eq_true', Bool.not_eq_false', Bool.and_eq_true, Bool.or_eq_true, Bool.and_eq_false_iff, Bool.or_eq_false_iff, Int.not_lt, Int.not_le, Bool.not_eq_true, Bool.not_eq_false] at hb) <;> (try (have hbl := And.left hb; have hbr := And.right hb)) <;> (try (have hbll := And.left hbl; have hblr := And.right hbl)) <;> (try first | contradiction | exact (bff hb (by assumption)).elim | exact (bft hb (by assumption)).elim | (exfalso; omega)))
        | ((with_reducible apply (wp_region_lit (id := 0)))
           ((with_reducible apply l_boxN); (focus exact rfl); intro g2 w2 hb2 hx2 hg2; (try simp only [SS, Nat.reduceAdd]))
           ((with_reducible apply l_assign); (focus (first | (simp only [EE]; done) | (simp only [EE]; exact rfl) | exact rfl)); (try simp only [SS, Nat.reduceAdd]))
           (with_reducible apply wpList_nil))
        | ((with_reducible apply (wp_region_lit (id := 1)))
           ((with_reducible apply l_move); (focus (first | (simp only [EE]; done) | (simp only [EE]; exact rfl) | exact rfl)); (try simp only [SS, Nat.reduceAdd]))
           ((with_reducible apply l_fieldAddr); (focus exact rfl); (try simp only [SS, Nat.reduceAdd]))
           ((with_reducible apply l_load1); (focus exact rfl); (focus (first | assumption | ((apply cx); (focus assumption); (focus (repeat (first | exact xr _ | assumption | (apply xt; assumption)))); done) | ((first | (apply cb; assumption) | (apply c0; assumption) | (apply cr; assumption) | (apply cp; assumption)); (focus (repeat (first | exact xr _ | assumption | (apply xt; assumption)))); exact rfl))); (try simp only [SS, Nat.reduceAdd]))
           ((with_reducible apply l_fieldAddr); (focus exact rfl); (try simp only [SS, Nat.reduceAdd]))
           ((with_reducible apply l_load1); (focus exact rfl); (focus (first | assumption | ((apply cx); (focus assumption); (focus (repeat (first | exact xr _ | assumption | (apply xt; assumption)))); done) | ((first | (apply cb; assumption) | (apply c0; assumption) | (apply cr; assumption) | (apply cp; assumption)); (focus (repeat (first | exact xr _ | assumption | (apply xt; assumption)))); exact rfl))); (try simp only [SS, Nat.reduceAdd]))
           ((with_reducible apply l_enter); (focus (first | (simp only [EE]; done) | (simp only [EE]; exact rfl) | exact rfl)); first | ((with_reducible refine (within_any _ _ _ _).mono ?_);  rintro e w10 ⟨rfl, hx10⟩; (try simp only []); (try simp only [SS, Nat.reduceAdd])))
           ((with_reducible apply l_assign); (focus (first | (simp only [EE]; done) | (simp only [EE]; exact rfl) | exact rfl)); (try simp only [SS, Nat.reduceAdd]))
           (with_reducible apply wpList_nil))
        | ((fail_if_success (with_reducible apply no_region)); (fail_if_success (with_reducible apply no_list)); (fail_if_success (with_reducible apply no_oper)); (fail_if_success (with_reducible apply no_par)); (fail_if_success (with_reducible apply no_loop)); go_step))
  go_ret
  exact ⟨rfl, (by (focus (repeat (first | exact xr _ | assumption | (apply xt; assumption)))))⟩
theorem next_any (s : Ser) (last : Int) (w : World) :
    Calls Tryd.prog 48 #[s.v, .int .i64 last] w fun e w' => e = .returned (.tuple #[.int .i64 (nextN s last).1, .int .i64 (nextN s last).2]) ∧ Ext w w' := by
  by_cases hok : seriesFaultN s = 0 ∧ isOfB s last = true
  · have hb := series_ok s hok.1
    have hl := (isOf_bd s last).1 hok.2
    go_enter Tryd.func48, Tryd.ntmps48
    repeat' (
        first
          | ((with_reducible apply wp_seq_k); intro K hK)
          | (simp only [Exit.then, Exit.inBlock, ↓reduceIte, Nat.reduceEqDiff])
          | with_reducible apply wp_block
          | with_reducible apply wp_skip
          | with_reducible apply wp_exit
          | ((with_reducible apply wp_cond_true); (focus exact rfl))
          | ((with_reducible apply wp_cond_false); (focus exact rfl))
          | (((with_reducible apply wp_cond_split); (focus exact rfl)) <;> intro hb <;> (try simp only [bne_iff_ne, ne_eq, bne_eq_false_iff_eq, beq_iff_eq, beq_eq_false_iff_ne, decide_eq_true_eq, decide_eq_false_iff_not, Bool.not_eq_true', Bool.not_eq_false', Bool.and_eq_true, Bool.or_eq_true, Bool.and_eq_false_iff, Bool.or_eq_false_iff, Int.not_lt, Int.not_le, Bool.not_eq_true, Bool.not_eq_false] at hb) <;> (try (have hbl := And.left hb; have hbr := And.right hb)) <;> (try (have hbll := And.left hbl; have hblr := And.right hbl)) <;> (try first | contradiction | exact (bff hb (by assumption)).elim | exact (bft hb (by assumption)).elim | (exfalso; omega)))
          | ((with_reducible apply (wp_region_lit (id := 0)))
             ((with_reducible apply l_boxN); (focus exact rfl); intro g2 w2 hb2 hx2 hg2; (try simp only [SS, Nat.reduceAdd]))
             ((with_reducible apply l_assign); (focus (first | (simp only [EE]; done) | (simp only [EE]; exact rfl) | exact rfl)); (try simp only [SS, Nat.reduceAdd]))
             ((with_reducible apply l_assign); (focus (first | (simp only [EE]; done) | (simp only [EE]; exact rfl) | exact rfl)); (try simp only [SS, Nat.reduceAdd]))
             (with_reducible apply wpList_nil))
          | ((with_reducible apply (wp_region_lit (id := 1)))
             ((with_reducible apply l_loadN); (focus exact rfl); (focus (first | assumption | ((first | (apply rb; assumption) | (apply rx; assumption)); (focus (repeat (first | exact xr _ | assumption | (apply xt; assumption))))))); (focus exact rfl); (try simp only [SS, Nat.reduceAdd]))
             ((with_reducible apply l_enter); (focus (first | (simp only [EE]; done) | (simp only [EE]; exact rfl) | exact rfl)); first | ((with_reducible refine (checkSeries_any _ _).mono ?_);  rintro e w8 ⟨rfl, hx8⟩; (try simp only []); (try simp only [SS, Nat.reduceAdd])))
             ((with_reducible apply l_assign); (focus (first | (simp only [EE]; done) | (simp only [EE]; exact rfl) | exact rfl)); (try simp only [SS, Nat.reduceAdd]))
             (with_reducible apply wpList_nil))
          | ((with_reducible apply (wp_region_lit (id := 2)))
             ((with_reducible apply l_move); (focus (first | (simp only [EE]; done) | (simp only [EE]; exact rfl) | exact rfl)); (try simp only [SS, Nat.reduceAdd]))
             ((with_reducible apply l_neq); (focus exact rfl); (focus exact rfl); (try simp only [SS, Nat.reduceAdd]))
             (with_reducible apply wpList_nil))
          | ((with_reducible apply (wp_region_lit (id := 3)))
             ((with_reducible apply l_move); (focus (first | (simp only [EE]; done) | (simp only [EE]; exact rfl) | exact rfl)); (try simp only [SS, Nat.reduceAdd]))
             ((with_reducible apply l_assign); (focus (first | (simp only [EE]; done) | (simp only [EE]; exact rfl) | exact rfl)); (try simp only [SS, Nat.reduceAdd]))
             ((with_reducible apply l_assign); (focus (first | (simp only [EE]; done) | (simp only [EE]; exact rfl) | exact rfl)); (try simp only [SS, Nat.reduceAdd]))
             (with_reducible apply wpList_nil))
          | ((with_reducible apply (wp_region_lit (id := 4)))
             ((with_reducible apply l_loadN); (focus exact rfl); (focus (first | assumption | ((first | (apply rb; assumption) | (apply rx; assumption)); (focus (repeat (first | exact xr _ | assumption | (apply xt; assumption))))))); (focus exact rfl); (try simp only [SS, Nat.reduceAdd]))
             ((with_reducible apply l_move); (focus (first | (simp only [EE]; done) | (simp only [EE]; exact rfl) | exact rfl)); (try simp only [SS, Nat.reduceAdd]))
             ((with_reducible apply l_enter); (focus (first | (simp only [EE]; done) | (simp only [EE]; exact rfl) | exact rfl)); first | ((with_reducible refine (isOf_any _ _ _).mono ?_);  rintro e w14 ⟨rfl, hx14⟩; (try simp only []); (try simp only [SS, Nat.reduceAdd])))
             ((with_reducible apply l_not); (focus exact rfl); (try simp only [SS, Nat.reduceAdd]))
             (with_reducible apply wpList_nil))
          | ((with_reducible apply (wp_region_lit (id := 5)))
             ((with_reducible apply l_assign); (focus (first | (simp only [EE]; done) | (simp only [EE]; exact rfl) | exact rfl)); (try simp only [SS, Nat.reduceAdd]))
             ((with_reducible apply l_assign); (focus (first | (simp only [EE]; done) | (simp only [EE]; exact rfl) | exact rfl)); (try simp only [SS, Nat.reduceAdd]))
             (with_reducible apply wpList_nil))
          | ((with_reducible apply (wp_region_lit (id := 6)))
             ((with_reducible apply l_move); (focus (first | (simp only [EE]; done) | (simp only [EE]; exact rfl) | exact rfl)); (try simp only [SS, Nat.reduceAdd]))
             ((with_reducible apply l_fieldAddr); (focus exact rfl); (try simp only [SS, Nat.reduceAdd]))
             ((with_reducible apply l_load1); (focus exact rfl); (focus (first | assumption | ((apply cx); (focus assumption); (focus (repeat (first | exact xr _ | assumption | (apply xt; assumption)))); done) | ((first | (apply cb; assumption) | (apply c0; assumption) | (apply cr; assumption) | (apply cp; assumption)); (focus (repeat (first | exact xr _ | assumption | (apply xt; assumption)))); exact rfl))); (try simp only [SS, Nat.reduceAdd]))
             ((with_reducible apply l_eql); (focus exact rfl); (focus exact rfl); (try simp only [SS, Nat.reduceAdd]))
             (with_reducible apply wpList_nil))
          | ((with_reducible apply (wp_region_lit (id := 7)))
             ((with_reducible apply l_fieldAddr); (focus exact rfl); (try simp only [SS, Nat.reduceAdd]))
             ((with_reducible apply l_load1); (focus exact rfl); (focus (first | assumption | ((apply cx); (focus assumption); (focus (repeat (first | exact xr _ | assumption | (apply xt; assumption)))); done) | ((first | (apply cb; assumption) | (apply c0; assumption) | (apply cr; assumption) | (apply cp; assumption)); (focus (repeat (first | exact xr _ | assumption | (apply xt; assumption)))); exact rfl))); (try simp only [SS, Nat.reduceAdd]))
             ((with_reducible apply l_assign); (focus (first | (simp only [EE]; done) | (simp only [EE]; exact rfl) | exact rfl)); (try simp only [SS, Nat.reduceAdd]))
             ((with_reducible apply l_assign); (focus (first | (simp only [EE]; done) | (simp only [EE]; exact rfl) | exact rfl)); (try simp only [SS, Nat.reduceAdd]))
             (with_reducible apply wpList_nil))
          | ((with_reducible apply (wp_region_lit (id := 8)))
             ((with_reducible apply l_move); (focus (first | (simp only [EE]; done) | (simp only [EE]; exact rfl) | exact rfl)); (try simp only [SS, Nat.reduceAdd]))
             ((with_reducible apply l_add); (focus exact rfl); (focus exact rfl); (focus (first | (apply IntWalk.i64_in; omega) | exact IntWalk.i64_left _)); (try simp only [SS, Nat.reduceAdd]))
             ((with_reducible apply l_assign); (focus (first | (simp only [EE]; done) | (simp only [EE]; exact rfl) | exact rfl)); (try simp only [SS, Nat.reduceAdd]))
             ((with_reducible apply l_assign); (focus (first | (simp only [EE]; done) | (simp only [EE]; exact rfl) | exact rfl)); (try simp only [SS, Nat.reduceAdd]))
             (with_reducible apply wpList_nil))
          | ((fail_if_success (with_reducible apply no_region)); (fail_if_success (with_reducible apply no_list)); (fail_if_success (with_reducible apply no_oper)); (fail_if_success (with_reducible apply no_par)); (fail_if_success (with_reducible apply no_loop)); go_step))
    all_goals
      go_ret2
      refine ⟨?_, (by (focus (repeat (first | exact xr _ | assumption | (apply xt; assumption)))))⟩
      simp_all [nextN]
  · go_enter Tryd.func48, Tryd.ntmps48
    repeat' (
        first
          | ((with_reducible apply wp_seq_k); intro K hK)
          | (simp only [Exit.then, Exit.inBlock, ↓reduceIte, Nat.reduceEqDiff])
          | with_reducible apply wp_block
          | with_reducible apply wp_skip
          | with_reducible apply wp_exit
          | ((with_reducible apply wp_cond_true); (focus exact rfl))
          | ((with_reducible apply wp_cond_false); (focus exact rfl))
          | (((with_reducible apply wp_cond_split); (focus exact rfl)) <;> intro hb <;> (try simp only [bne_iff_ne, ne_eq, bne_eq_false_iff_eq, beq_iff_eq, beq_eq_false_iff_ne, decide_eq_true_eq, decide_eq_false_iff_not, Bool.not_eq_true', Bool.not_eq_false', Bool.and_eq_true, Bool.or_eq_true, Bool.and_eq_false_iff, Bool.or_eq_false_iff, Int.not_lt, Int.not_le, Bool.not_eq_true, Bool.not_eq_false] at hb) <;> (try (have hbl := And.left hb; have hbr := And.right hb)) <;> (try (have hbll := And.left hbl; have hblr := And.right hbl)) <;> (try first | contradiction | exact (bff hb (by assumption)).elim | exact (bft hb (by assumption)).elim | (exfalso; omega)))
          | ((with_reducible apply (wp_region_lit (id := 0)))
             ((with_reducible apply l_boxN); (focus exact rfl); intro g2 w2 hb2 hx2 hg2; (try simp only [SS, Nat.reduceAdd]))
             ((with_reducible apply l_assign); (focus (first | (simp only [EE]; done) | (simp only [EE]; exact rfl) | exact rfl)); (try simp only [SS, Nat.reduceAdd]))
             ((with_reducible apply l_assign); (focus (first | (simp only [EE]; done) | (simp only [EE]; exact rfl) | exact rfl)); (try simp only [SS, Nat.reduceAdd]))
             (with_reducible apply wpList_nil))
          | ((with_reducible apply (wp_region_lit (id := 1)))
             ((with_reducible apply l_loadN); (focus exact rfl); (focus (first | assumption | ((first | (apply rb; assumption) | (apply rx; assumption)); (focus (repeat (first | exact xr _ | assumption | (apply xt; assumption))))))); (focus exact rfl); (try simp only [SS, Nat.reduceAdd]))
             ((with_reducible apply l_enter); (focus (first | (simp only [EE]; done) | (simp only [EE]; exact rfl) | exact rfl)); first | ((with_reducible refine (checkSeries_any _ _).mono ?_);  rintro e w8 ⟨rfl, hx8⟩; (try simp only []); (try simp only [SS, Nat.reduceAdd])))
             ((with_reducible apply l_assign); (focus (first | (simp only [EE]; done) | (simp only [EE]; exact rfl) | exact rfl)); (try simp only [SS, Nat.reduceAdd]))
             (with_reducible apply wpList_nil))
          | ((with_reducible apply (wp_region_lit (id := 2)))
             ((with_reducible apply l_move); (focus (first | (simp only [EE]; done) | (simp only [EE]; exact rfl) | exact rfl)); (try simp only [SS, Nat.reduceAdd]))
             ((with_reducible apply l_neq); (focus exact rfl); (focus exact rfl); (try simp only [SS, Nat.reduceAdd]))
             (with_reducible apply wpList_nil))
          | ((with_reducible apply (wp_region_lit (id := 3)))
             ((with_reducible apply l_move); (focus (first | (simp only [EE]; done) | (simp only [EE]; exact rfl) | exact rfl)); (try simp only [SS, Nat.reduceAdd]))
             ((with_reducible apply l_assign); (focus (first | (simp only [EE]; done) | (simp only [EE]; exact rfl) | exact rfl)); (try simp only [SS, Nat.reduceAdd]))
             ((with_reducible apply l_assign); (focus (first | (simp only [EE]; done) | (simp only [EE]; exact rfl) | exact rfl)); (try simp only [SS, Nat.reduceAdd]))
             (with_reducible apply wpList_nil))
          | ((with_reducible apply (wp_region_lit (id := 4)))
             ((with_reducible apply l_loadN); (focus exact rfl); (focus (first | assumption | ((first | (apply rb; assumption) | (apply rx; assumption)); (focus (repeat (first | exact xr _ | assumption | (apply xt; assumption))))))); (focus exact rfl); (try simp only [SS, Nat.reduceAdd]))
             ((with_reducible apply l_move); (focus (first | (simp only [EE]; done) | (simp only [EE]; exact rfl) | exact rfl)); (try simp only [SS, Nat.reduceAdd]))
             ((with_reducible apply l_enter); (focus (first | (simp only [EE]; done) | (simp only [EE]; exact rfl) | exact rfl)); first | ((with_reducible refine (isOf_any _ _ _).mono ?_);  rintro e w14 ⟨rfl, hx14⟩; (try simp only []); (try simp only [SS, Nat.reduceAdd])))
             ((with_reducible apply l_not); (focus exact rfl); (try simp only [SS, Nat.reduceAdd]))
             (with_reducible apply wpList_nil))
          | ((with_reducible apply (wp_region_lit (id := 5)))
             ((with_reducible apply l_assign); (focus (first | (simp only [EE]; done) | (simp only [EE]; exact rfl) | exact rfl)); (try simp only [SS, Nat.reduceAdd]))
             ((with_reducible apply l_assign); (focus (first | (simp only [EE]; done) | (simp only [EE]; exact rfl) | exact rfl)); (try simp only [SS, Nat.reduceAdd]))
             (with_reducible apply wpList_nil))
          | ((with_reducible apply (wp_region_lit (id := 6)))
             ((with_reducible apply l_move); (focus (first | (simp only [EE]; done) | (simp only [EE]; exact rfl) | exact rfl)); (try simp only [SS, Nat.reduceAdd]))
             ((with_reducible apply l_fieldAddr); (focus exact rfl); (try simp only [SS, Nat.reduceAdd]))
             ((with_reducible apply l_load1); (focus exact rfl); (focus (first | assumption | ((apply cx); (focus assumption); (focus (repeat (first | exact xr _ | assumption | (apply xt; assumption)))); done) | ((first | (apply cb; assumption) | (apply c0; assumption) | (apply cr; assumption) | (apply cp; assumption)); (focus (repeat (first | exact xr _ | assumption | (apply xt; assumption)))); exact rfl))); (try simp only [SS, Nat.reduceAdd]))
             ((with_reducible apply l_eql); (focus exact rfl); (focus exact rfl); (try simp only [SS, Nat.reduceAdd]))
             (with_reducible apply wpList_nil))
          | ((with_reducible apply (wp_region_lit (id := 7)))
             ((with_reducible apply l_fieldAddr); (focus exact rfl); (try simp only [SS, Nat.reduceAdd]))
             ((with_reducible apply l_load1); (focus exact rfl); (focus (first | assumption | ((apply cx); (focus assumption); (focus (repeat (first | exact xr _ | assumption | (apply xt; assumption)))); done) | ((first | (apply cb; assumption) | (apply c0; assumption) | (apply cr; assumption) | (apply cp; assumption)); (focus (repeat (first | exact xr _ | assumption | (apply xt; assumption)))); exact rfl))); (try simp only [SS, Nat.reduceAdd]))
             ((with_reducible apply l_assign); (focus (first | (simp only [EE]; done) | (simp only [EE]; exact rfl) | exact rfl)); (try simp only [SS, Nat.reduceAdd]))
             ((with_reducible apply l_assign); (focus (first | (simp only [EE]; done) | (simp only [EE]; exact rfl) | exact rfl)); (try simp only [SS, Nat.reduceAdd]))
             (with_reducible apply wpList_nil))
          | ((with_reducible apply (wp_region_lit (id := 8)))
             ((with_reducible apply l_move); (focus (first | (simp only [EE]; done) | (simp only [EE]; exact rfl) | exact rfl)); (try simp only [SS, Nat.reduceAdd]))
             ((with_reducible apply l_add); (focus exact rfl); (focus exact rfl); (focus (first | (apply IntWalk.i64_in; omega) | exact IntWalk.i64_left _)); (try simp only [SS, Nat.reduceAdd]))
             ((with_reducible apply l_assign); (focus (first | (simp only [EE]; done) | (simp only [EE]; exact rfl) | exact rfl)); (try simp only [SS, Nat.reduceAdd]))
             ((with_reducible apply l_assign); (focus (first | (simp only [EE]; done) | (simp only [EE]; exact rfl) | exact rfl)); (try simp only [SS, Nat.reduceAdd]))
             (with_reducible apply wpList_nil))
          | ((fail_if_success (with_reducible apply no_region)); (fail_if_success (with_reducible apply no_list)); (fail_if_success (with_reducible apply no_oper)); (fail_if_success (with_reducible apply no_par)); (fail_if_success (with_reducible apply no_loop)); go_step))
    all_goals first
      | (exfalso; simp_all; done)
      | (go_ret2
         refine ⟨?_, (by (focus (repeat (first | exact xr _ | assumption | (apply xt; assumption)))))⟩
         simp_all [nextN]
         done)
      | skip
theorem awake_any (w : World) : Calls Tryd.prog 15 #[] w fun e w' => e = .returned (.bool true) ∧ Ext w w' := by
  have H1 : nextN ⟨1, 9⟩ 9 = (1, 0) := by decide
  have C : ∀ w, Calls Tryd.prog 48 #[.agg #[.int .i64 1, .int .i64 9], .int .i64 9] w fun e w' => e = .returned (.tuple #[.int .i64 1, .int .i64 0]) ∧ Ext w w' := by
    intro w
    have := next_any ⟨1, 9⟩ 9 w
    rw [H1] at this
    exact this
  clear H1
  go_enter Tryd.func15, Tryd.ntmps15
  repeat' (
      first
        | ((with_reducible apply wp_seq_k); intro K hK)
        | (simp only [Exit.then, Exit.inBlock, ↓reduceIte, Nat.reduceEqDiff])
        | with_reducible apply wp_block
        | with_reducible apply wp_skip
        | with_reducible apply wp_exit
        | ((with_reducible apply wp_cond_true); (focus exact rfl))
        | ((with_reducible apply wp_cond_false); (focus exact rfl))
        | (((with_reducible apply wp_cond_split); (focus exact rfl)) <;> intro hb <;> (try simp only [bne_iff_ne, ne_eq, bne_eq_false_iff_eq, beq_iff_eq, beq_eq_false_iff_ne, decide_eq_true_eq, decide_eq_false_iff_not, Bool.not_eq_true', Bool.not_eq_false', Bool.and_eq_true, Bool.or_eq_true, Bool.and_eq_false_iff, Bool.or_eq_false_iff, Int.not_lt, Int.not_le, Bool.not_eq_true, Bool.not_eq_false] at hb) <;> (try (have hbl := And.left hb; have hbr := And.right hb)) <;> (try (have hbll := And.left hbl; have hblr := And.right hbl)) <;> (try first | contradiction | exact (bff hb (by assumption)).elim | exact (bft hb (by assumption)).elim | (exfalso; omega)))
        | ((with_reducible apply (wp_region_lit (id := 0)))
           ((with_reducible apply l_assign); (focus (first | (simp only [EE]; done) | (simp only [EE]; exact rfl) | exact rfl)); (try simp only [SS, Nat.reduceAdd]))
           (with_reducible apply wpList_nil))
        | ((with_reducible apply (wp_region_lit (id := 1)))
           ((with_reducible apply l_build); (focus (first | (simp only [EE]; done) | (simp only [EE]; exact rfl) | exact rfl)); (focus exact rfl); (try simp only [SS, SB, Nat.reduceAdd]))
           ((with_reducible apply l_enter); (focus (first | (simp only [EE]; done) | (simp only [EE]; exact rfl) | exact rfl)); first | ((with_reducible refine (C _).mono ?_);  rintro e w5 ⟨rfl, hx5⟩; (try simp only []); (try simp only [SS, Nat.reduceAdd])) | ((with_reducible refine (next_any _ _ _).mono ?_);  rintro e w5 ⟨rfl, hx5⟩; (try simp only []); (try simp only [SS, Nat.reduceAdd])))
           ((with_reducible apply l_move); (focus (first | (simp only [EE]; done) | (simp only [EE]; exact rfl) | exact rfl)); (try simp only [SS, Nat.reduceAdd]))
           ((with_reducible apply l_extract); (focus exact rfl); (focus exact rfl); (try simp only [SS, Nat.reduceAdd]))
           ((with_reducible apply l_extract); (focus exact rfl); (focus exact rfl); (try simp only [SS, Nat.reduceAdd]))
           ((with_reducible apply l_assign); (focus (first | (simp only [EE]; done) | (simp only [EE]; exact rfl) | exact rfl)); (try simp only [SS, Nat.reduceAdd]))
           ((with_reducible apply l_assign); (focus (first | (simp only [EE]; done) | (simp only [EE]; exact rfl) | exact rfl)); (try simp only [SS, Nat.reduceAdd]))
           (with_reducible apply wpList_nil))
        | ((with_reducible apply (wp_region_seq (id := 2)))
           ((with_reducible apply p_move); (focus (first | (simp only [EE]; done) | (simp only [EE]; exact rfl) | exact rfl)); (try simp only [SS, Nat.reduceAdd]))
           ((with_reducible apply p_eql); (focus exact rfl); (focus exact rfl); (try simp only [SS, Nat.reduceAdd]))
           ((with_reducible apply p_move); (focus (first | (simp only [EE]; done) | (simp only [EE]; exact rfl) | exact rfl)); (try simp only [SS, Nat.reduceAdd]))
           ((with_reducible apply par_ct); (focus exact rfl); (focus exact rfl); (focus (intro hg1 w1 hx K hK; have hq1 := hg1; (try simp only [decide_eq_true_eq, decide_eq_false_iff_not, Int.not_lt, Int.not_le] at hq1); (try simp only [hg1, GS2] at hK ⊢); ((with_reducible apply r_move); (focus (first | (simp only [EE]; done) | (simp only [EE]; exact rfl) | exact rfl)); exact hK _ (Ext.refl _)))); (try simp only [SS, Nat.reduceAdd]))
           ((with_reducible apply par_ct); (focus exact rfl); (focus exact rfl); (focus (intro hg1 w1 hx K hK; have hq1 := hg1; (try simp only [decide_eq_true_eq, decide_eq_false_iff_not, Int.not_lt, Int.not_le] at hq1); (try simp only [hg1, GS2] at hK ⊢); ((with_reducible apply r_eql); (focus exact rfl); (focus exact rfl); exact hK _ (Ext.refl _)))); (try simp only [SS, Nat.reduceAdd]))
           ((with_reducible apply p_and); (focus exact rfl); (focus exact rfl); (try simp only [SS, Nat.reduceAdd]))
           ((with_reducible apply p_assign); (focus (first | (simp only [EE]; done) | (simp only [EE]; exact rfl) | exact rfl)); (try simp only [SS, Nat.reduceAdd]))
           ((with_reducible apply par_nil); intro v2 hv2 _))
        | ((fail_if_success (with_reducible apply no_region)); (fail_if_success (with_reducible apply no_list)); (fail_if_success (with_reducible apply no_oper)); (fail_if_success (with_reducible apply no_par)); (fail_if_success (with_reducible apply no_loop)); go_step))
  go_ret
  exact ⟨rfl, (by (focus (repeat (first | exact xr _ | assumption | (apply xt; assumption)))))⟩
end Go.Proofs.YtdopillligfdiaaDoor
