/- Contracts: the numbers of a series. -/
import Derived.Test.YtdopillligfdiaaS1v
namespace Go.Proofs.Ytdopillligfdiaa
set_option linter.unusedSimpArgs false
set_option linter.unusedVariables false
open Go.RowKit
set_option maxRecDepth 100000
set_option maxHeartbeats 2000000

theorem size_any (s : Ser) (w : World) (hok : seriesFaultN s = 0) :
    Calls Try.prog 33 #[s.v] w fun e w' => e = .returned (.int .i64 (sizeN s)) ∧ Ext w w' := by
  have hb := series_ok s hok
  go_enter Try.func33, Try.ntmps33
  repeat' (
      first
        | ((with_reducible apply wp_seq_k); intro K hK)
        | (simp only [Exit.then, Exit.inBlock, ↓reduceIte, Nat.reduceEqDiff])
        | with_reducible apply wp_block
        | with_reducible apply wp_skip
        | with_reducible apply wp_exit
        | ((with_reducible apply wp_cond_true); (focus exact rfl))
        | ((with_reducible apply wp_cond_false); (focus exact rfl))
        | (((with_reducible apply wp_cond_split); (focus exact rfl)) <;> intro hb <;> (try simp only [bne_iff_ne, ne_eq, bne_eq_false_iff_eq, beq_iff_eq, beq_eq_false_iff_ne, decide_eq_true_eq, decide_eq_false_iff_not, Bool.not_eq_true', Bool.not_eq_false', Bool.and_eq_true, Bool.or_eq_true, Bool.and_eq_false_iff, Bool.or_eq_false_iff, Int.not_lt, Int.not_le, Bool.not_eq_true, Bool.not_eq_false] at hb) <;> (try (have hbl := And.left hb; have hbr := And.right hb)) <;> (try (have hbll := And.left hbl; have hblr := And.right hbl)) <;> (try first | contradiction | exact (bff hb (by assumption)).elim | exact (bft hb (by assumption)).elim | (exfalso; omega)))
        | ((with_reducible apply (wp_region_lit (id := 0)))
           ((with_reducible apply l_boxN); (focus exact rfl); intro g1 w1 hb1 hx1 hg1; (try simp only [SS, Nat.reduceAdd]))
           ((with_reducible apply l_assign); (focus (first | (simp only [EE]; done) | (simp only [EE]; exact rfl) | exact rfl)); (try simp only [SS, Nat.reduceAdd]))
           (with_reducible apply wpList_nil))
        | ((with_reducible apply (wp_region_lit (id := 1)))
           ((with_reducible apply l_fieldAddr); (focus exact rfl); (try simp only [SS, Nat.reduceAdd]))
           ((with_reducible apply l_load1); (focus exact rfl); (focus (first | assumption | ((apply cx); (focus assumption); (focus (repeat (first | exact xr _ | assumption | (apply xt; assumption)))); done) | ((first | (apply cb; assumption) | (apply c0; assumption) | (apply cr; assumption) | (apply cp; assumption)); (focus (repeat (first | exact xr _ | assumption | (apply xt; assumption)))); exact rfl))); (try simp only [SS, Nat.reduceAdd]))
           ((with_reducible apply l_fieldAddr); (focus exact rfl); (try simp only [SS, Nat.reduceAdd]))
           ((with_reducible apply l_load1); (focus exact rfl); (focus (first | assumption | ((apply cx); (focus assumption); (focus (repeat (first | exact xr _ | assumption | (apply xt; assumption)))); done) | ((first | (apply cb; assumption) | (apply c0; assumption) | (apply cr; assumption) | (apply cp; assumption)); (focus (repeat (first | exact xr _ | assumption | (apply xt; assumption)))); exact rfl))); (try simp only [SS, Nat.reduceAdd]))
           ((with_reducible apply l_sub); (focus exact rfl); (focus exact rfl); (focus (first | (apply IntWalk.i64_in; omega) | exact IntWalk.i64_left _)); (try simp only [SS, Nat.reduceAdd]))
           ((with_reducible apply l_add); (focus exact rfl); (focus exact rfl); (focus (first | (apply IntWalk.i64_in; omega) | exact IntWalk.i64_left _)); (try simp only [SS, Nat.reduceAdd]))
           ((with_reducible apply l_assign); (focus (first | (simp only [EE]; done) | (simp only [EE]; exact rfl) | exact rfl)); (try simp only [SS, Nat.reduceAdd]))
           (with_reducible apply wpList_nil))
        | ((fail_if_success (with_reducible apply no_region)); (fail_if_success (with_reducible apply no_list)); (fail_if_success (with_reducible apply no_oper)); (fail_if_success (with_reducible apply no_par)); (fail_if_success (with_reducible apply no_loop)); go_step))
  go_ret
  exact ⟨rfl, (by (focus (repeat (first | exact xr _ | assumption | (apply xt; assumption)))))⟩
theorem size8_any (s : Ser) (w : World) (hok : seriesFaultN s = 0) :
    Calls Try.prog 31 #[s.v] w fun e w' => e = .returned (.int .i64 (sizeN s)) ∧ Ext w w' := by
  have hb := series_ok s hok
  go_enter Try.func31, Try.ntmps31
  repeat' (
      first
        | ((with_reducible apply wp_seq_k); intro K hK)
        | (simp only [Exit.then, Exit.inBlock, ↓reduceIte, Nat.reduceEqDiff])
        | with_reducible apply wp_block
        | with_reducible apply wp_skip
        | with_reducible apply wp_exit
        | ((with_reducible apply wp_cond_true); (focus exact rfl))
        | ((with_reducible apply wp_cond_false); (focus exact rfl))
        | (((with_reducible apply wp_cond_split); (focus exact rfl)) <;> intro hb <;> (try simp only [bne_iff_ne, ne_eq, bne_eq_false_iff_eq, beq_iff_eq, beq_eq_false_iff_ne, decide_eq_true_eq, decide_eq_false_iff_not, Bool.not_eq_true', Bool.not_eq_false', Bool.and_eq_true, Bool.or_eq_true, Bool.and_eq_false_iff, Bool.or_eq_false_iff, Int.not_lt, Int.not_le, Bool.not_eq_true, Bool.not_eq_false] at hb) <;> (try (have hbl := And.left hb; have hbr := And.right hb)) <;> (try (have hbll := And.left hbl; have hblr := And.right hbl)) <;> (try first | contradiction | exact (bff hb (by assumption)).elim | exact (bft hb (by assumption)).elim | (exfalso; omega)))
        | ((with_reducible apply (wp_region_lit (id := 0)))
           ((with_reducible apply l_boxN); (focus exact rfl); intro g1 w1 hb1 hx1 hg1; (try simp only [SS, Nat.reduceAdd]))
           ((with_reducible apply l_assign); (focus (first | (simp only [EE]; done) | (simp only [EE]; exact rfl) | exact rfl)); (try simp only [SS, Nat.reduceAdd]))
           (with_reducible apply wpList_nil))
        | ((with_reducible apply (wp_region_lit (id := 1)))
           ((with_reducible apply l_fieldAddr); (focus exact rfl); (try simp only [SS, Nat.reduceAdd]))
           ((with_reducible apply l_load1); (focus exact rfl); (focus (first | assumption | ((apply cx); (focus assumption); (focus (repeat (first | exact xr _ | assumption | (apply xt; assumption)))); done) | ((first | (apply cb; assumption) | (apply c0; assumption) | (apply cr; assumption) | (apply cp; assumption)); (focus (repeat (first | exact xr _ | assumption | (apply xt; assumption)))); exact rfl))); (try simp only [SS, Nat.reduceAdd]))
           ((with_reducible apply l_fieldAddr); (focus exact rfl); (try simp only [SS, Nat.reduceAdd]))
           ((with_reducible apply l_load1); (focus exact rfl); (focus (first | assumption | ((apply cx); (focus assumption); (focus (repeat (first | exact xr _ | assumption | (apply xt; assumption)))); done) | ((first | (apply cb; assumption) | (apply c0; assumption) | (apply cr; assumption) | (apply cp; assumption)); (focus (repeat (first | exact xr _ | assumption | (apply xt; assumption)))); exact rfl))); (try simp only [SS, Nat.reduceAdd]))
           ((with_reducible apply l_sub); (focus exact rfl); (focus exact rfl); (focus (first | (apply IntWalk.i64_in; omega) | exact IntWalk.i64_left _)); (try simp only [SS, Nat.reduceAdd]))
           ((with_reducible apply l_add); (focus exact rfl); (focus exact rfl); (focus (first | (apply IntWalk.i64_in; omega) | exact IntWalk.i64_left _)); (try simp only [SS, Nat.reduceAdd]))
           ((with_reducible apply l_assign); (focus (first | (simp only [EE]; done) | (simp only [EE]; exact rfl) | exact rfl)); (try simp only [SS, Nat.reduceAdd]))
           (with_reducible apply wpList_nil))
        | ((fail_if_success (with_reducible apply no_region)); (fail_if_success (with_reducible apply no_list)); (fail_if_success (with_reducible apply no_oper)); (fail_if_success (with_reducible apply no_par)); (fail_if_success (with_reducible apply no_loop)); go_step))
  go_ret
  exact ⟨rfl, (by (focus (repeat (first | exact xr _ | assumption | (apply xt; assumption)))))⟩
theorem sizeN_bd (s : Ser) (hok : seriesFaultN s = 0) : 2 ≤ sizeN s ∧ sizeN s ≤ 1000000000000000 := by
  have := series_ok s hok
  unfold sizeN; omega
theorem half_any (s : Ser) (w : World) (hok : seriesFaultN s = 0) :
    Calls Try.prog 23 #[s.v] w fun e w' => e = .returned (.int .i64 (sizeN s / 2)) ∧ Ext w w' := by
  have hb := sizeN_bd s hok
  go_enter Try.func23, Try.ntmps23
  repeat' (
      first
        | ((with_reducible apply wp_seq_k); intro K hK)
        | (simp only [Exit.then, Exit.inBlock, ↓reduceIte, Nat.reduceEqDiff])
        | with_reducible apply wp_block
        | with_reducible apply wp_skip
        | with_reducible apply wp_exit
        | ((with_reducible apply wp_cond_true); (focus exact rfl))
        | ((with_reducible apply wp_cond_false); (focus exact rfl))
        | (((with_reducible apply wp_cond_split); (focus exact rfl)) <;> intro hb <;> (try simp only [bne_iff_ne, ne_eq, bne_eq_false_iff_eq, beq_iff_eq, beq_eq_false_iff_ne, decide_eq_true_eq, decide_eq_false_iff_not, Bool.not_eq_true', Bool.not_eq_false', Bool.and_eq_true, Bool.or_eq_true, Bool.and_eq_false_iff, Bool.or_eq_false_iff, Int.not_lt, Int.not_le, Bool.not_eq_true, Bool.not_eq_false] at hb) <;> (try (have hbl := And.left hb; have hbr := And.right hb)) <;> (try (have hbll := And.left hbl; have hblr := And.right hbl)) <;> (try first | contradiction | exact (bff hb (by assumption)).elim | exact (bft hb (by assumption)).elim | (exfalso; omega)))
        | ((with_reducible apply (wp_region_lit (id := 0)))
           ((with_reducible apply l_boxN); (focus exact rfl); intro g1 w1 hb1 hx1 hg1; (try simp only [SS, Nat.reduceAdd]))
           ((with_reducible apply l_assign); (focus (first | (simp only [EE]; done) | (simp only [EE]; exact rfl) | exact rfl)); (try simp only [SS, Nat.reduceAdd]))
           (with_reducible apply wpList_nil))
        | ((with_reducible apply (wp_region_lit (id := 1)))
           ((with_reducible apply l_loadN); (focus exact rfl); (focus (first | assumption | ((first | (apply rb; assumption) | (apply rx; assumption)); (focus (repeat (first | exact xr _ | assumption | (apply xt; assumption))))))); (focus exact rfl); (try simp only [SS, Nat.reduceAdd]))
           ((with_reducible apply l_enter); (focus (first | (simp only [EE]; done) | (simp only [EE]; exact rfl) | exact rfl)); first | ((with_reducible refine (size_any _ _ ?_).mono ?_); (focus (first | assumption | exact rfl | omega | simp; done)); rintro e w4 ⟨rfl, hx4⟩; (try simp only []); (try simp only [SS, Nat.reduceAdd])))
           ((with_reducible apply l_quo_nn); (focus exact rfl); (focus exact rfl); (focus (first | assumption | omega)); (focus (first | assumption | omega)); (focus (first | assumption | omega)); (try simp only [SS, Nat.reduceAdd]))
           ((with_reducible apply l_assign); (focus (first | (simp only [EE]; done) | (simp only [EE]; exact rfl) | exact rfl)); (try simp only [SS, Nat.reduceAdd]))
           (with_reducible apply wpList_nil))
        | ((fail_if_success (with_reducible apply no_region)); (fail_if_success (with_reducible apply no_list)); (fail_if_success (with_reducible apply no_oper)); (fail_if_success (with_reducible apply no_par)); (fail_if_success (with_reducible apply no_loop)); go_step))
  go_ret
  exact ⟨rfl, (by (focus (repeat (first | exact xr _ | assumption | (apply xt; assumption)))))⟩
theorem between_any (s : Ser) (a b : Int) (w : World) (hok : seriesFaultN s = 0) (ha : isOfB s a = true) (hb : isOfB s b = true) :
    Calls Try.prog 22 #[s.v, .int .i64 a, .int .i64 b] w fun e w' => e = .returned (.int .i64 (stepsN s a b)) ∧ Ext w w' := by
  have h1 := series_ok s hok
  have h2 := sizeN_bd s hok
  have h3 := (isOf_bd s a).1 ha
  have h4 := (isOf_bd s b).1 hb
  have h5 : sizeN s = s.last - s.first + 1 := rfl
  have h6 : 0 ≤ b - a + sizeN s := by omega
  have h7 : b - a + sizeN s ≤ 2000000000000000 := by omega
  go_enter Try.func22, Try.ntmps22
  repeat' (
      first
        | ((with_reducible apply wp_seq_k); intro K hK)
        | (simp only [Exit.then, Exit.inBlock, ↓reduceIte, Nat.reduceEqDiff])
        | with_reducible apply wp_block
        | with_reducible apply wp_skip
        | with_reducible apply wp_exit
        | ((with_reducible apply wp_cond_true); (focus exact rfl))
        | ((with_reducible apply wp_cond_false); (focus exact rfl))
        | (((with_reducible apply wp_cond_split); (focus exact rfl)) <;> intro hb <;> (try simp only [bne_iff_ne, ne_eq, bne_eq_false_iff_eq, beq_iff_eq, beq_eq_false_iff_ne, decide_eq_true_eq, decide_eq_false_iff_not, Bool.not_eq_true', Bool.not_eq_false', Bool.and_eq_true, Bool.or_eq_true, Bool.and_eq_false_iff, Bool.or_eq_false_iff, Int.not_lt, Int.not_le, Bool.not_eq_true, Bool.not_eq_false] at hb) <;> (try (have hbl := And.left hb; have hbr := And.right hb)) <;> (try (have hbll := And.left hbl; have hblr := And.right hbl)) <;> (try first | contradiction | exact (bff hb (by assumption)).elim | exact (bft hb (by assumption)).elim | (exfalso; omega)))
        | ((with_reducible apply (wp_region_lit (id := 0)))
           ((with_reducible apply l_boxN); (focus exact rfl); intro g3 w3 hb3 hx3 hg3; (try simp only [SS, Nat.reduceAdd]))
           ((with_reducible apply l_assign); (focus (first | (simp only [EE]; done) | (simp only [EE]; exact rfl) | exact rfl)); (try simp only [SS, Nat.reduceAdd]))
           (with_reducible apply wpList_nil))
        | (((with_reducible apply (wp_region_par (id := 1))); (focus kernel_rfl); (focus kernel_rfl); (focus exact rfl))
           ((with_reducible apply p_move); (focus (first | (simp only [EE]; done) | (simp only [EE]; exact rfl) | exact rfl)); (try simp only [SS, Nat.reduceAdd]))
           ((with_reducible apply p_move); (focus (first | (simp only [EE]; done) | (simp only [EE]; exact rfl) | exact rfl)); (try simp only [SS, Nat.reduceAdd]))
           ((with_reducible apply p_sub); (focus exact rfl); (focus exact rfl); (focus (first | (apply IntWalk.i64_in; omega) | exact IntWalk.i64_left _)); (try simp only [SS, Nat.reduceAdd]))
           ((with_reducible apply p_loadN); (focus exact rfl); (focus (first | assumption | ((first | (apply rb; assumption) | (apply rx; assumption)); (focus (repeat (first | exact xr _ | assumption | (apply xt; assumption))))))); (focus exact rfl); (try simp only [SS, Nat.reduceAdd]))
           ((with_reducible apply p_enter); (focus (first | (simp only [EE]; done) | (simp only [EE]; exact rfl) | exact rfl)); first | ((focus (intro w1 hw1; (with_reducible refine (size_any _ _ ?_).mono ?_); (focus (first | assumption | exact rfl | omega | simp; done)); rintro e w11 ⟨rfl, hx11⟩; exact ⟨rfl, hx11⟩)); (try simp only [SS, Nat.reduceAdd])))
           ((with_reducible apply p_add); (focus exact rfl); (focus exact rfl); (focus (first | (apply IntWalk.i64_in; omega) | exact IntWalk.i64_left _)); (try simp only [SS, Nat.reduceAdd]))
           ((with_reducible apply p_loadN); (focus exact rfl); (focus (first | assumption | ((first | (apply rb; assumption) | (apply rx; assumption)); (focus (repeat (first | exact xr _ | assumption | (apply xt; assumption))))))); (focus exact rfl); (try simp only [SS, Nat.reduceAdd]))
           ((with_reducible apply p_enter); (focus (first | (simp only [EE]; done) | (simp only [EE]; exact rfl) | exact rfl)); first | ((focus (intro w1 hw1; (with_reducible refine (size_any _ _ ?_).mono ?_); (focus (first | assumption | exact rfl | omega | simp; done)); rintro e w14 ⟨rfl, hx14⟩; exact ⟨rfl, hx14⟩)); (try simp only [SS, Nat.reduceAdd])))
           ((with_reducible apply p_rem_nn); (focus exact rfl); (focus exact rfl); (focus (first | assumption | omega)); (focus (first | assumption | omega)); (try simp only [SS, Nat.reduceAdd]))
           ((with_reducible apply p_assign); (focus (first | (simp only [EE]; done) | (simp only [EE]; exact rfl) | exact rfl)); (try simp only [SS, Nat.reduceAdd]))
           ((with_reducible apply par_nil); intro v1 hv1 _))
        | ((fail_if_success (with_reducible apply no_region)); (fail_if_success (with_reducible apply no_list)); (fail_if_success (with_reducible apply no_oper)); (fail_if_success (with_reducible apply no_par)); (fail_if_success (with_reducible apply no_loop)); go_step))
  go_ret
  refine ⟨ret_int ?_, (by (focus (repeat (first | exact xr _ | assumption | (apply xt; assumption)))))⟩
  exact between_steps s a b h3 h4
theorem steps8_any (s : Ser) (a b : Int) (w : World) (hok : seriesFaultN s = 0) (ha : isOfB s a = true) (hb : isOfB s b = true) :
    Calls Try.prog 27 #[s.v, .int .i64 a, .int .i64 b] w fun e w' => e = .returned (.int .i64 (stepsN s a b)) ∧ Ext w w' := by
  have h1 := series_ok s hok
  have h2 := sizeN_bd s hok
  have h3 := (isOf_bd s a).1 ha
  have h4 := (isOf_bd s b).1 hb
  have h5 : sizeN s = s.last - s.first + 1 := rfl
  go_enter Try.func27, Try.ntmps27
  repeat' (
      first
        | ((with_reducible apply wp_seq_k); intro K hK)
        | (simp only [Exit.then, Exit.inBlock, ↓reduceIte, Nat.reduceEqDiff])
        | with_reducible apply wp_block
        | with_reducible apply wp_skip
        | with_reducible apply wp_exit
        | ((with_reducible apply wp_cond_true); (focus exact rfl))
        | ((with_reducible apply wp_cond_false); (focus exact rfl))
        | (((with_reducible apply wp_cond_split); (focus exact rfl)) <;> intro hb <;> (try simp only [bne_iff_ne, ne_eq, bne_eq_false_iff_eq, beq_iff_eq, beq_eq_false_iff_ne, decide_eq_true_eq, decide_eq_false_iff_not, Bool.not_eq_true', Bool.not_eq_false', Bool.and_eq_true, Bool.or_eq_true, Bool.and_eq_false_iff, Bool.or_eq_false_iff, Int.not_lt, Int.not_le, Bool.not_eq_true, Bool.not_eq_false] at hb) <;> (try (have hbl := And.left hb; have hbr := And.right hb)) <;> (try (have hbll := And.left hbl; have hblr := And.right hbl)) <;> (try first | contradiction | exact (bff hb (by assumption)).elim | exact (bft hb (by assumption)).elim | (exfalso; omega)))
        | ((with_reducible apply (wp_region_lit (id := 0)))
           ((with_reducible apply l_boxN); (focus exact rfl); intro g3 w3 hb3 hx3 hg3; (try simp only [SS, Nat.reduceAdd]))
           ((with_reducible apply l_assign); (focus (first | (simp only [EE]; done) | (simp only [EE]; exact rfl) | exact rfl)); (try simp only [SS, Nat.reduceAdd]))
           (with_reducible apply wpList_nil))
        | ((with_reducible apply (wp_region_lit (id := 1)))
           ((with_reducible apply l_move); (focus (first | (simp only [EE]; done) | (simp only [EE]; exact rfl) | exact rfl)); (try simp only [SS, Nat.reduceAdd]))
           ((with_reducible apply l_move); (focus (first | (simp only [EE]; done) | (simp only [EE]; exact rfl) | exact rfl)); (try simp only [SS, Nat.reduceAdd]))
           ((with_reducible apply l_geq); (focus exact rfl); (focus exact rfl); (try simp only [SS, Nat.reduceAdd]))
           (with_reducible apply wpList_nil))
        | ((with_reducible apply (wp_region_lit (id := 2)))
           ((with_reducible apply l_move); (focus (first | (simp only [EE]; done) | (simp only [EE]; exact rfl) | exact rfl)); (try simp only [SS, Nat.reduceAdd]))
           ((with_reducible apply l_move); (focus (first | (simp only [EE]; done) | (simp only [EE]; exact rfl) | exact rfl)); (try simp only [SS, Nat.reduceAdd]))
           ((with_reducible apply l_sub); (focus exact rfl); (focus exact rfl); (focus (first | (apply IntWalk.i64_in; omega) | exact IntWalk.i64_left _)); (try simp only [SS, Nat.reduceAdd]))
           ((with_reducible apply l_assign); (focus (first | (simp only [EE]; done) | (simp only [EE]; exact rfl) | exact rfl)); (try simp only [SS, Nat.reduceAdd]))
           (with_reducible apply wpList_nil))
        | ((with_reducible apply (wp_region_lit (id := 3)))
           ((with_reducible apply l_move); (focus (first | (simp only [EE]; done) | (simp only [EE]; exact rfl) | exact rfl)); (try simp only [SS, Nat.reduceAdd]))
           ((with_reducible apply l_move); (focus (first | (simp only [EE]; done) | (simp only [EE]; exact rfl) | exact rfl)); (try simp only [SS, Nat.reduceAdd]))
           ((with_reducible apply l_sub); (focus exact rfl); (focus exact rfl); (focus (first | (apply IntWalk.i64_in; omega) | exact IntWalk.i64_left _)); (try simp only [SS, Nat.reduceAdd]))
           ((with_reducible apply l_loadN); (focus exact rfl); (focus (first | assumption | ((first | (apply rb; assumption) | (apply rx; assumption)); (focus (repeat (first | exact xr _ | assumption | (apply xt; assumption))))))); (focus exact rfl); (try simp only [SS, Nat.reduceAdd]))
           ((with_reducible apply l_enter); (focus (first | (simp only [EE]; done) | (simp only [EE]; exact rfl) | exact rfl)); first | ((with_reducible refine (size8_any _ _ ?_).mono ?_); (focus (first | assumption | exact rfl | omega | simp; done)); rintro e w17 ⟨rfl, hx17⟩; (try simp only []); (try simp only [SS, Nat.reduceAdd])))
           ((with_reducible apply l_add); (focus exact rfl); (focus exact rfl); (focus (first | (apply IntWalk.i64_in; omega) | exact IntWalk.i64_left _)); (try simp only [SS, Nat.reduceAdd]))
           ((with_reducible apply l_assign); (focus (first | (simp only [EE]; done) | (simp only [EE]; exact rfl) | exact rfl)); (try simp only [SS, Nat.reduceAdd]))
           (with_reducible apply wpList_nil))
        | ((fail_if_success (with_reducible apply no_region)); (fail_if_success (with_reducible apply no_list)); (fail_if_success (with_reducible apply no_oper)); (fail_if_success (with_reducible apply no_par)); (fail_if_success (with_reducible apply no_loop)); go_step))
  all_goals
    go_ret
    refine ⟨ret_int ?_, (by (focus (repeat (first | exact xr _ | assumption | (apply xt; assumption)))))⟩
    unfold stepsN
    split <;> omega
theorem numberAt_any (s : Ser) (pl : Int) (w : World) (hok : seriesFaultN s = 0) (h0 : 0 ≤ pl) (hm : pl ≤ 4000000000000000000) :
    Calls Try.prog 34 #[s.v, .int .i64 pl] w fun e w' => e = .returned (.int .i64 (s.first + pl % sizeN s)) ∧ Ext w w' := by
  have h1 := series_ok s hok
  have h2 := sizeN_bd s hok
  have h5 : sizeN s = s.last - s.first + 1 := rfl
  have h6 := Int.emod_nonneg pl (show sizeN s ≠ 0 by omega)
  have h7 := Int.emod_lt_of_pos pl (show 0 < sizeN s by omega)
  have h8 : (pl % sizeN s + sizeN s) % sizeN s = pl % sizeN s := by
    have e : pl % sizeN s + sizeN s = pl % sizeN s + sizeN s * 1 := by omega
    rw [e, Int.add_mul_emod_self_left, Int.emod_eq_of_lt h6 h7]
  have h9 := Int.emod_nonneg (pl % sizeN s + sizeN s) (show sizeN s ≠ 0 by omega)
  have h10 := Int.emod_lt_of_pos (pl % sizeN s + sizeN s) (show 0 < sizeN s by omega)
  go_enter Try.func34, Try.ntmps34
  repeat' (
      first
        | ((with_reducible apply wp_seq_k); intro K hK)
        | (simp only [Exit.then, Exit.inBlock, ↓reduceIte, Nat.reduceEqDiff])
        | with_reducible apply wp_block
        | with_reducible apply wp_skip
        | with_reducible apply wp_exit
        | ((with_reducible apply wp_cond_true); (focus exact rfl))
        | ((with_reducible apply wp_cond_false); (focus exact rfl))
        | (((with_reducible apply wp_cond_split); (focus exact rfl)) <;> intro hb <;> (try simp only [bne_iff_ne, ne_eq, bne_eq_false_iff_eq, beq_iff_eq, beq_eq_false_iff_ne, decide_eq_true_eq, decide_eq_false_iff_not, Bool.not_eq_true', Bool.not_eq_false', Bool.and_eq_true, Bool.or_eq_true, Bool.and_eq_false_iff, Bool.or_eq_false_iff, Int.not_lt, Int.not_le, Bool.not_eq_true, Bool.not_eq_false] at hb) <;> (try (have hbl := And.left hb; have hbr := And.right hb)) <;> (try (have hbll := And.left hbl; have hblr := And.right hbl)) <;> (try first | contradiction | exact (bff hb (by assumption)).elim | exact (bft hb (by assumption)).elim | (exfalso; omega)))
        | ((with_reducible apply (wp_region_lit (id := 0)))
           ((with_reducible apply l_boxN); (focus exact rfl); intro g2 w2 hb2 hx2 hg2; (try simp only [SS, Nat.reduceAdd]))
           ((with_reducible apply l_assign); (focus (first | (simp only [EE]; done) | (simp only [EE]; exact rfl) | exact rfl)); (try simp only [SS, Nat.reduceAdd]))
           (with_reducible apply wpList_nil))
        | (((with_reducible apply (wp_region_par (id := 1))); (focus kernel_rfl); (focus kernel_rfl); (focus exact rfl))
           ((with_reducible apply p_fieldAddr); (focus exact rfl); (try simp only [SS, Nat.reduceAdd]))
           ((with_reducible apply p_load1); (focus exact rfl); (focus (first | assumption | ((apply cx); (focus assumption); (focus (repeat (first | exact xr _ | assumption | (apply xt; assumption)))); done) | ((first | (apply cb; assumption) | (apply c0; assumption) | (apply cr; assumption) | (apply cp; assumption)); (focus (repeat (first | exact xr _ | assumption | (apply xt; assumption)))); exact rfl))); (try simp only [SS, Nat.reduceAdd]))
           ((with_reducible apply p_move); (focus (first | (simp only [EE]; done) | (simp only [EE]; exact rfl) | exact rfl)); (try simp only [SS, Nat.reduceAdd]))
           ((with_reducible apply p_loadN); (focus exact rfl); (focus (first | assumption | ((first | (apply rb; assumption) | (apply rx; assumption)); (focus (repeat (first | exact xr _ | assumption | (apply xt; assumption))))))); (focus exact rfl); (try simp only [SS, Nat.reduceAdd]))
           ((with_reducible apply p_enter); (focus (first | (simp only [EE]; done) | (simp only [EE]; exact rfl) | exact rfl)); first | ((focus (intro w1 hw1; (with_reducible refine (size_any _ _ ?_).mono ?_); (focus (first | assumption | exact rfl | omega | simp; done)); rintro e w9 ⟨rfl, hx9⟩; exact ⟨rfl, hx9⟩)); (try simp only [SS, Nat.reduceAdd])))
           ((with_reducible apply p_rem_nn); (focus exact rfl); (focus exact rfl); (focus (first | assumption | omega)); (focus (first | assumption | omega)); (try simp only [SS, Nat.reduceAdd]))
           ((with_reducible apply p_loadN); (focus exact rfl); (focus (first | assumption | ((first | (apply rb; assumption) | (apply rx; assumption)); (focus (repeat (first | exact xr _ | assumption | (apply xt; assumption))))))); (focus exact rfl); (try simp only [SS, Nat.reduceAdd]))
           ((with_reducible apply p_enter); (focus (first | (simp only [EE]; done) | (simp only [EE]; exact rfl) | exact rfl)); first | ((focus (intro w1 hw1; (with_reducible refine (size_any _ _ ?_).mono ?_); (focus (first | assumption | exact rfl | omega | simp; done)); rintro e w12 ⟨rfl, hx12⟩; exact ⟨rfl, hx12⟩)); (try simp only [SS, Nat.reduceAdd])))
           ((with_reducible apply p_add); (focus exact rfl); (focus exact rfl); (focus (first | (apply IntWalk.i64_in; omega) | exact IntWalk.i64_left _)); (try simp only [SS, Nat.reduceAdd]))
           ((with_reducible apply p_loadN); (focus exact rfl); (focus (first | assumption | ((first | (apply rb; assumption) | (apply rx; assumption)); (focus (repeat (first | exact xr _ | assumption | (apply xt; assumption))))))); (focus exact rfl); (try simp only [SS, Nat.reduceAdd]))
           ((with_reducible apply p_enter); (focus (first | (simp only [EE]; done) | (simp only [EE]; exact rfl) | exact rfl)); first | ((focus (intro w1 hw1; (with_reducible refine (size_any _ _ ?_).mono ?_); (focus (first | assumption | exact rfl | omega | simp; done)); rintro e w15 ⟨rfl, hx15⟩; exact ⟨rfl, hx15⟩)); (try simp only [SS, Nat.reduceAdd])))
           ((with_reducible apply p_rem_nn); (focus exact rfl); (focus exact rfl); (focus (first | assumption | omega)); (focus (first | assumption | omega)); (try simp only [SS, Nat.reduceAdd]))
           ((with_reducible apply p_add); (focus exact rfl); (focus exact rfl); (focus (first | (apply IntWalk.i64_in; omega) | exact IntWalk.i64_left _)); (try simp only [SS, Nat.reduceAdd]))
           ((with_reducible apply p_assign); (focus (first | (simp only [EE]; done) | (simp only [EE]; exact rfl) | exact rfl)); (try simp only [SS, Nat.reduceAdd]))
           ((with_reducible apply par_nil); intro v1 hv1 _))
        | ((fail_if_success (with_reducible apply no_region)); (fail_if_success (with_reducible apply no_list)); (fail_if_success (with_reducible apply no_oper)); (fail_if_success (with_reducible apply no_par)); (fail_if_success (with_reducible apply no_loop)); go_step))
  go_ret
  refine ⟨ret_int ?_, (by (focus (repeat (first | exact xr _ | assumption | (apply xt; assumption)))))⟩
  rw [h8]
def nextSpec : Unit := ()
def betweenSp (s : Ser) (a b : Int) : Int × Int := if seriesFaultN s ≠ 0 then (0, seriesFaultN s) else if (isOfB s a && isOfB s b) = true then (stepsN s a b, 0) else (0, 1)
theorem Between_any (s : Ser) (a b : Int) (w : World) :
    Calls Try.prog 17 #[s.v, .int .i64 a, .int .i64 b] w fun e w' => e = .returned (.tuple #[.int .i64 (betweenSp s a b).1, .int .i64 (betweenSp s a b).2]) ∧ Ext w w' := by
  go_enter Try.func17, Try.ntmps17
  repeat' (
      first
        | ((with_reducible apply wp_seq_k); intro K hK)
        | (simp only [Exit.then, Exit.inBlock, ↓reduceIte, Nat.reduceEqDiff])
        | with_reducible apply wp_block
        | with_reducible apply wp_skip
        | with_reducible apply wp_exit
        | ((with_reducible apply wp_cond_true); (focus exact rfl))
        | ((with_reducible apply wp_cond_false); (focus exact rfl))
        | (((with_reducible apply wp_cond_split); (focus exact rfl)) <;> intro hb <;> (try simp only [bne_iff_ne, ne_eq, bne_eq_false_iff_eq, beq_iff_eq, beq_eq_false_iff_ne, decide_eq_true_eq, decide_eq_false_iff_not, Bool.not_eq_true', Bool.not_eq_false', Bool.and_eq_true, Bool.or_eq_true, Bool.and_eq_false_iff, Bool.or_eq_false_iff, Int.not_lt, Int.not_le, Bool.not_eq_true, Bool.not_eq_false] at hb) <;> (try (have hbl := And.left hb; have hbr := And.right hb)) <;> (try (have hbll := And.left hbl; have hblr := And.right hbl)) <;> (try first | contradiction | exact (bff hb (by assumption)).elim | exact (bft hb (by assumption)).elim | (exfalso; omega)))
        | ((with_reducible apply (wp_region_lit (id := 0)))
           ((with_reducible apply l_boxN); (focus exact rfl); intro g3 w3 hb3 hx3 hg3; (try simp only [SS, Nat.reduceAdd]))
           ((with_reducible apply l_assign); (focus (first | (simp only [EE]; done) | (simp only [EE]; exact rfl) | exact rfl)); (try simp only [SS, Nat.reduceAdd]))
           ((with_reducible apply l_assign); (focus (first | (simp only [EE]; done) | (simp only [EE]; exact rfl) | exact rfl)); (try simp only [SS, Nat.reduceAdd]))
           (with_reducible apply wpList_nil))
        | ((with_reducible apply (wp_region_lit (id := 1)))
           ((with_reducible apply l_loadN); (focus exact rfl); (focus (first | assumption | ((first | (apply rb; assumption) | (apply rx; assumption)); (focus (repeat (first | exact xr _ | assumption | (apply xt; assumption))))))); (focus exact rfl); (try simp only [SS, Nat.reduceAdd]))
           ((with_reducible apply l_enter); (focus (first | (simp only [EE]; done) | (simp only [EE]; exact rfl) | exact rfl)); first | ((with_reducible refine (checkSeries_any _ _).mono ?_);  rintro e w10 ⟨rfl, hx10⟩; (try simp only []); (try simp only [SS, Nat.reduceAdd])))
           ((with_reducible apply l_assign); (focus (first | (simp only [EE]; done) | (simp only [EE]; exact rfl) | exact rfl)); (try simp only [SS, Nat.reduceAdd]))
           (with_reducible apply wpList_nil))
        | ((with_reducible apply (wp_region_lit (id := 2)))
           ((with_reducible apply l_move); (focus (first | (simp only [EE]; done) | (simp only [EE]; exact rfl) | exact rfl)); (try simp only [SS, Nat.reduceAdd]))
           ((with_reducible apply l_neq); (focus exact rfl); (focus exact rfl); (try simp only [SS, Nat.reduceAdd]))
           (with_reducible apply wpList_nil))
        | ((with_reducible apply (wp_region_lit (id := 3)))
           ((with_reducible apply l_move); (focus (first | (simp only [EE]; done) | (simp only [EE]; exact rfl) | exact rfl)); (try simp only [SS, Nat.reduceAdd]))
           ((with_reducible apply l_assign); (focus (first | (simp only [EE]; done) | (simp only [EE]; exact rfl) | exact rfl)); (try simp only [SS, Nat.reduceAdd]))
           ((with_reducible apply l_assign); (focus (first | (simp only [EE]; done) | (simp only [EE]; exact rfl) | exact rfl)); (try simp only [SS, Nat.reduceAdd]))
           (with_reducible apply wpList_nil))
        | ((with_reducible apply (wp_region_seq (id := 4)))
           ((with_reducible apply p_loadN); (focus exact rfl); (focus (first | assumption | ((first | (apply rb; assumption) | (apply rx; assumption)); (focus (repeat (first | exact xr _ | assumption | (apply xt; assumption))))))); (focus exact rfl); (try simp only [SS, Nat.reduceAdd]))
           ((with_reducible apply p_move); (focus (first | (simp only [EE]; done) | (simp only [EE]; exact rfl) | exact rfl)); (try simp only [SS, Nat.reduceAdd]))
           ((with_reducible apply p_enter); (focus (first | (simp only [EE]; done) | (simp only [EE]; exact rfl) | exact rfl)); first | ((focus (intro w1 hw1; (with_reducible refine (isOf_any _ _ _).mono ?_);  rintro e w16 ⟨rfl, hx16⟩; exact ⟨rfl, hx16⟩)); (try simp only [SS, Nat.reduceAdd])))
           ((with_reducible apply p_not); (focus exact rfl); (try simp only [SS, Nat.reduceAdd]))
           ((with_reducible apply p_move); (focus (first | (simp only [EE]; done) | (simp only [EE]; exact rfl) | exact rfl)); (try simp only [SS, Nat.reduceAdd]))
           ((with_reducible apply par_cf); (focus exact rfl); (focus exact rfl); (focus (intro hg1 w1 hx K hK; have hq1 := hg1; (try simp only [decide_eq_true_eq, decide_eq_false_iff_not, Int.not_lt, Int.not_le] at hq1); (try simp only [hg1, GS2] at hK ⊢); ((with_reducible apply r_loadN); (focus exact rfl); (focus (first | assumption | ((first | (apply rb; assumption) | (apply rx; assumption)); (focus (repeat (first | exact xr _ | assumption | (apply xt; assumption))))))); (focus exact rfl); exact hK _ (Ext.refl _)))); (try simp only [SS, Nat.reduceAdd]))
           ((with_reducible apply par_cf); (focus exact rfl); (focus exact rfl); (focus (intro hg1 w1 hx K hK; have hq1 := hg1; (try simp only [decide_eq_true_eq, decide_eq_false_iff_not, Int.not_lt, Int.not_le] at hq1); (try simp only [hg1, GS2] at hK ⊢); ((with_reducible apply r_move); (focus (first | (simp only [EE]; done) | (simp only [EE]; exact rfl) | exact rfl)); exact hK _ (Ext.refl _)))); (try simp only [SS, Nat.reduceAdd]))
           ((with_reducible apply par_cf); (focus exact rfl); (focus exact rfl); (focus (intro hg1 w1 hx K hK; have hq1 := hg1; (try simp only [decide_eq_true_eq, decide_eq_false_iff_not, Int.not_lt, Int.not_le] at hq1); (try simp only [hg1, GS2] at hK ⊢); ((with_reducible apply r_enter); (focus (first | (simp only [EE]; done) | (simp only [EE]; exact rfl) | exact rfl)); first | ((with_reducible refine (isOf_any _ _ _).mono ?_);  rintro e w21 ⟨rfl, hx21⟩; exact hK _ hx21)))); (try simp only [SS, Nat.reduceAdd]))
           ((with_reducible apply par_cf); (focus exact rfl); (focus exact rfl); (focus (intro hg1 w1 hx K hK; have hq1 := hg1; (try simp only [decide_eq_true_eq, decide_eq_false_iff_not, Int.not_lt, Int.not_le] at hq1); (try simp only [hg1, GS2] at hK ⊢); ((with_reducible apply r_not); (focus exact rfl); exact hK _ (Ext.refl _)))); (try simp only [SS, Nat.reduceAdd]))
           ((with_reducible apply p_or); (focus exact rfl); (focus exact rfl); (try simp only [SS, Nat.reduceAdd]))
           ((with_reducible apply par_nil); intro v4 hv4 _))
        | ((with_reducible apply (wp_region_lit (id := 5)))
           ((with_reducible apply l_assign); (focus (first | (simp only [EE]; done) | (simp only [EE]; exact rfl) | exact rfl)); (try simp only [SS, Nat.reduceAdd]))
           ((with_reducible apply l_assign); (focus (first | (simp only [EE]; done) | (simp only [EE]; exact rfl) | exact rfl)); (try simp only [SS, Nat.reduceAdd]))
           (with_reducible apply wpList_nil))
        | ((with_reducible apply (wp_region_lit (id := 6)))
           ((with_reducible apply l_loadN); (focus exact rfl); (focus (first | assumption | ((first | (apply rb; assumption) | (apply rx; assumption)); (focus (repeat (first | exact xr _ | assumption | (apply xt; assumption))))))); (focus exact rfl); (try simp only [SS, Nat.reduceAdd]))
           ((with_reducible apply l_move); (focus (first | (simp only [EE]; done) | (simp only [EE]; exact rfl) | exact rfl)); (try simp only [SS, Nat.reduceAdd]))
           ((with_reducible apply l_move); (focus (first | (simp only [EE]; done) | (simp only [EE]; exact rfl) | exact rfl)); (try simp only [SS, Nat.reduceAdd]))
           ((with_reducible apply l_enter); (focus (first | (simp only [EE]; done) | (simp only [EE]; exact rfl) | exact rfl)); first | ((with_reducible refine (between_any s _ _ _ ?_ ?_ ?_).mono ?_); (focus (first | assumption | exact rfl | omega | simp; done)); (focus (first | assumption | exact rfl | omega | simp; done)); (focus (first | assumption | exact rfl | omega | simp; done)); rintro e w27 ⟨rfl, hx27⟩; (try simp only []); (try simp only [SS, Nat.reduceAdd])) | ((with_reducible refine (between_any _ _ _ _ ?_ ?_ ?_).mono ?_); (focus (first | assumption | exact rfl | omega | simp; done)); (focus (first | assumption | exact rfl | omega | simp; done)); (focus (first | assumption | exact rfl | omega | simp; done)); rintro e w27 ⟨rfl, hx27⟩; (try simp only []); (try simp only [SS, Nat.reduceAdd])))
           ((with_reducible apply l_assign); (focus (first | (simp only [EE]; done) | (simp only [EE]; exact rfl) | exact rfl)); (try simp only [SS, Nat.reduceAdd]))
           ((with_reducible apply l_assign); (focus (first | (simp only [EE]; done) | (simp only [EE]; exact rfl) | exact rfl)); (try simp only [SS, Nat.reduceAdd]))
           (with_reducible apply wpList_nil))
        | ((fail_if_success (with_reducible apply no_region)); (fail_if_success (with_reducible apply no_list)); (fail_if_success (with_reducible apply no_oper)); (fail_if_success (with_reducible apply no_par)); (fail_if_success (with_reducible apply no_loop)); go_step))
  all_goals
    go_ret2
    refine ⟨?_, (by (focus (repeat (first | exact xr _ | assumption | (apply xt; assumption)))))⟩
    simp_all [betweenSp] <;> grind
theorem Between8_any (s : Ser) (a b : Int) (w : World) :
    Calls Try.prog 18 #[s.v, .int .i64 a, .int .i64 b] w fun e w' => e = .returned (.tuple #[.int .i64 (betweenSp s a b).1, .int .i64 (betweenSp s a b).2]) ∧ Ext w w' := by
  go_enter Try.func18, Try.ntmps18
  repeat' (
      first
        | ((with_reducible apply wp_seq_k); intro K hK)
        | (simp only [Exit.then, Exit.inBlock, ↓reduceIte, Nat.reduceEqDiff])
        | with_reducible apply wp_block
        | with_reducible apply wp_skip
        | with_reducible apply wp_exit
        | ((with_reducible apply wp_cond_true); (focus exact rfl))
        | ((with_reducible apply wp_cond_false); (focus exact rfl))
        | (((with_reducible apply wp_cond_split); (focus exact rfl)) <;> intro hb <;> (try simp only [bne_iff_ne, ne_eq, bne_eq_false_iff_eq, beq_iff_eq, beq_eq_false_iff_ne, decide_eq_true_eq, decide_eq_false_iff_not, Bool.not_eq_true', Bool.not_eq_false', Bool.and_eq_true, Bool.or_eq_true, Bool.and_eq_false_iff, Bool.or_eq_false_iff, Int.not_lt, Int.not_le, Bool.not_eq_true, Bool.not_eq_false] at hb) <;> (try (have hbl := And.left hb; have hbr := And.right hb)) <;> (try (have hbll := And.left hbl; have hblr := And.right hbl)) <;> (try first | contradiction | exact (bff hb (by assumption)).elim | exact (bft hb (by assumption)).elim | (exfalso; omega)))
        | ((with_reducible apply (wp_region_lit (id := 0)))
           ((with_reducible apply l_boxN); (focus exact rfl); intro g3 w3 hb3 hx3 hg3; (try simp only [SS, Nat.reduceAdd]))
           ((with_reducible apply l_assign); (focus (first | (simp only [EE]; done) | (simp only [EE]; exact rfl) | exact rfl)); (try simp only [SS, Nat.reduceAdd]))
           ((with_reducible apply l_assign); (focus (first | (simp only [EE]; done) | (simp only [EE]; exact rfl) | exact rfl)); (try simp only [SS, Nat.reduceAdd]))
           (with_reducible apply wpList_nil))
        | ((with_reducible apply (wp_region_seq (id := 1)))
           ((with_reducible apply p_loadN); (focus exact rfl); (focus (first | assumption | ((first | (apply rb; assumption) | (apply rx; assumption)); (focus (repeat (first | exact xr _ | assumption | (apply xt; assumption))))))); (focus exact rfl); (try simp only [SS, Nat.reduceAdd]))
           ((with_reducible apply p_enter); (focus (first | (simp only [EE]; done) | (simp only [EE]; exact rfl) | exact rfl)); first | ((focus (intro w1 hw1; (with_reducible refine (checkSeries8_any _ _).mono ?_);  rintro e w9 ⟨rfl, hx9⟩; exact ⟨rfl, hx9⟩)); (try simp only [SS, Nat.reduceAdd])))
           ((with_reducible apply p_neq); (focus exact rfl); (focus exact rfl); (try simp only [SS, Nat.reduceAdd]))
           ((with_reducible apply p_move); (focus (first | (simp only [EE]; done) | (simp only [EE]; exact rfl) | exact rfl)); (try simp only [SS, Nat.reduceAdd]))
           ((with_reducible apply par_cf); (focus exact rfl); (focus exact rfl); (focus (intro hg1 w1 hx K hK; have hq1 := hg1; (try simp only [decide_eq_true_eq, decide_eq_false_iff_not, Int.not_lt, Int.not_le] at hq1); (try simp only [hg1, GS2] at hK ⊢); ((with_reducible apply r_loadN); (focus exact rfl); (focus (first | assumption | ((first | (apply rb; assumption) | (apply rx; assumption)); (focus (repeat (first | exact xr _ | assumption | (apply xt; assumption))))))); (focus exact rfl); exact hK _ (Ext.refl _)))); (try simp only [SS, Nat.reduceAdd]))
           ((with_reducible apply par_cf); (focus exact rfl); (focus exact rfl); (focus (intro hg1 w1 hx K hK; have hq1 := hg1; (try simp only [decide_eq_true_eq, decide_eq_false_iff_not, Int.not_lt, Int.not_le] at hq1); (try simp only [hg1, GS2] at hK ⊢); ((with_reducible apply r_move); (focus (first | (simp only [EE]; done) | (simp only [EE]; exact rfl) | exact rfl)); exact hK _ (Ext.refl _)))); (try simp only [SS, Nat.reduceAdd]))
           ((with_reducible apply par_cf); (focus exact rfl); (focus exact rfl); (focus (intro hg1 w1 hx K hK; have hq1 := hg1; (try simp only [decide_eq_true_eq, decide_eq_false_iff_not, Int.not_lt, Int.not_le] at hq1); (try simp only [hg1, GS2] at hK ⊢); ((with_reducible apply r_enter); (focus (first | (simp only [EE]; done) | (simp only [EE]; exact rfl) | exact rfl)); first | ((with_reducible refine (isOf8_any _ _ _).mono ?_);  rintro e w14 ⟨rfl, hx14⟩; exact hK _ hx14)))); (try simp only [SS, Nat.reduceAdd]))
           ((with_reducible apply par_cf); (focus exact rfl); (focus exact rfl); (focus (intro hg1 w1 hx K hK; have hq1 := hg1; (try simp only [decide_eq_true_eq, decide_eq_false_iff_not, Int.not_lt, Int.not_le] at hq1); (try simp only [hg1, GS2] at hK ⊢); ((with_reducible apply r_not); (focus exact rfl); exact hK _ (Ext.refl _)))); (try simp only [SS, Nat.reduceAdd]))
           ((with_reducible apply p_or); (focus exact rfl); (focus exact rfl); (try simp only [SS, Nat.reduceAdd]))
           ((with_reducible apply p_move); (focus (first | (simp only [EE]; done) | (simp only [EE]; exact rfl) | exact rfl)); (try simp only [SS, Nat.reduceAdd]))
           ((with_reducible apply par_cf); (focus exact rfl); (focus exact rfl); (focus (intro hg1 w1 hx K hK; have hq1 := hg1; (try simp only [decide_eq_true_eq, decide_eq_false_iff_not, Int.not_lt, Int.not_le] at hq1); (try simp only [hg1, GS2] at hK ⊢); ((with_reducible apply r_loadN); (focus exact rfl); (focus (first | assumption | ((first | (apply rb; assumption) | (apply rx; assumption)); (focus (repeat (first | exact xr _ | assumption | (apply xt; assumption))))))); (focus exact rfl); exact hK _ (Ext.refl _)))); (try simp only [SS, Nat.reduceAdd]))
           ((with_reducible apply par_cf); (focus exact rfl); (focus exact rfl); (focus (intro hg1 w1 hx K hK; have hq1 := hg1; (try simp only [decide_eq_true_eq, decide_eq_false_iff_not, Int.not_lt, Int.not_le] at hq1); (try simp only [hg1, GS2] at hK ⊢); ((with_reducible apply r_move); (focus (first | (simp only [EE]; done) | (simp only [EE]; exact rfl) | exact rfl)); exact hK _ (Ext.refl _)))); (try simp only [SS, Nat.reduceAdd]))
           ((with_reducible apply par_cf); (focus exact rfl); (focus exact rfl); (focus (intro hg1 w1 hx K hK; have hq1 := hg1; (try simp only [decide_eq_true_eq, decide_eq_false_iff_not, Int.not_lt, Int.not_le] at hq1); (try simp only [hg1, GS2] at hK ⊢); ((with_reducible apply r_enter); (focus (first | (simp only [EE]; done) | (simp only [EE]; exact rfl) | exact rfl)); first | ((with_reducible refine (isOf8_any _ _ _).mono ?_);  rintro e w20 ⟨rfl, hx20⟩; exact hK _ hx20)))); (try simp only [SS, Nat.reduceAdd]))
           ((with_reducible apply par_cf); (focus exact rfl); (focus exact rfl); (focus (intro hg1 w1 hx K hK; have hq1 := hg1; (try simp only [decide_eq_true_eq, decide_eq_false_iff_not, Int.not_lt, Int.not_le] at hq1); (try simp only [hg1, GS2] at hK ⊢); ((with_reducible apply r_not); (focus exact rfl); exact hK _ (Ext.refl _)))); (try simp only [SS, Nat.reduceAdd]))
           ((with_reducible apply p_or); (focus exact rfl); (focus exact rfl); (try simp only [SS, Nat.reduceAdd]))
           ((with_reducible apply par_nil); intro v1 hv1 _))
        | ((with_reducible apply (wp_region_lit (id := 2)))
           ((with_reducible apply l_assign); (focus (first | (simp only [EE]; done) | (simp only [EE]; exact rfl) | exact rfl)); (try simp only [SS, Nat.reduceAdd]))
           ((with_reducible apply l_assign); (focus (first | (simp only [EE]; done) | (simp only [EE]; exact rfl) | exact rfl)); (try simp only [SS, Nat.reduceAdd]))
           (with_reducible apply wpList_nil))
        | ((with_reducible apply (wp_region_lit (id := 3)))
           ((with_reducible apply l_loadN); (focus exact rfl); (focus (first | assumption | ((first | (apply rb; assumption) | (apply rx; assumption)); (focus (repeat (first | exact xr _ | assumption | (apply xt; assumption))))))); (focus exact rfl); (try simp only [SS, Nat.reduceAdd]))
           ((with_reducible apply l_move); (focus (first | (simp only [EE]; done) | (simp only [EE]; exact rfl) | exact rfl)); (try simp only [SS, Nat.reduceAdd]))
           ((with_reducible apply l_move); (focus (first | (simp only [EE]; done) | (simp only [EE]; exact rfl) | exact rfl)); (try simp only [SS, Nat.reduceAdd]))
           ((with_reducible apply l_enter); (focus (first | (simp only [EE]; done) | (simp only [EE]; exact rfl) | exact rfl)); first | ((with_reducible refine (steps8_any _ _ _ _ ?_ ?_ ?_).mono ?_); (focus (first | assumption | exact rfl | omega | simp; done)); (focus (first | assumption | exact rfl | omega | simp; done)); (focus (first | assumption | exact rfl | omega | simp; done)); rintro e w26 ⟨rfl, hx26⟩; (try simp only []); (try simp only [SS, Nat.reduceAdd])))
           ((with_reducible apply l_assign); (focus (first | (simp only [EE]; done) | (simp only [EE]; exact rfl) | exact rfl)); (try simp only [SS, Nat.reduceAdd]))
           ((with_reducible apply l_assign); (focus (first | (simp only [EE]; done) | (simp only [EE]; exact rfl) | exact rfl)); (try simp only [SS, Nat.reduceAdd]))
           (with_reducible apply wpList_nil))
        | ((fail_if_success (with_reducible apply no_region)); (fail_if_success (with_reducible apply no_list)); (fail_if_success (with_reducible apply no_oper)); (fail_if_success (with_reducible apply no_par)); (fail_if_success (with_reducible apply no_loop)); go_step))
  all_goals
    have h01 := seriesFault_01 s
    go_ret2
    refine ⟨?_, (by (focus (repeat (first | exact xr _ | assumption | (apply xt; assumption)))))⟩
    rcases h01 with h01 | h01 <;> simp_all [betweenSp] <;> grind
theorem next8_any (s : Ser) (last : Int) (w : World) :
    Calls Try.prog 14 #[s.v, .int .i64 last] w fun e w' => e = .returned (.tuple #[.int .i64 (nextN s last).1, .int .i64 (nextN s last).2]) ∧ Ext w w' := by
  by_cases hok : seriesFaultN s = 0 ∧ isOfB s last = true
  · have hb := series_ok s hok.1
    have hl := (isOf_bd s last).1 hok.2
    go_enter Try.func14, Try.ntmps14
    repeat' (
        first
          | ((with_reducible apply wp_seq_k); intro K hK)
          | (simp only [Exit.then, Exit.inBlock, ↓reduceIte, Nat.reduceEqDiff])
          | with_reducible apply wp_block
          | with_reducible apply wp_skip
          | with_reducible apply wp_exit
          | ((with_reducible apply wp_cond_true); (focus exact rfl))
          | ((with_reducible apply wp_cond_false); (focus exact rfl))
          | (((with_reducible apply wp_cond_split); (focus exact rfl)) <;> intro hb <;> (try simp only [bne_iff_ne, ne_eq, bne_eq_false_iff_eq, beq_iff_eq, beq_eq_false_iff_ne, decide_eq_true_eq, decide_eq_false_iff_not, Bool.not_eq_true', Bool.not_eq_false', Bool.and_eq_true, Bool.or_eq_true, Bool.and_eq_false_iff, Bool.or_eq_false_iff, Int.not_lt, Int.not_le, Bool.not_eq_true, Bool.not_eq_false] at hb) <;> (try (have hbl := And.left hb; have hbr := And.right hb)) <;> (try (have hbll := And.left hbl; have hblr := And.right hbl)) <;> (try first | contradiction | exact (bff hb (by assumption)).elim | exact (bft hb (by assumption)).elim | (exfalso; omega)))
          | ((with_reducible apply (wp_region_lit (id := 0)))
             ((with_reducible apply l_boxN); (focus exact rfl); intro g2 w2 hb2 hx2 hg2; (try simp only [SS, Nat.reduceAdd]))
             ((with_reducible apply l_assign); (focus (first | (simp only [EE]; done) | (simp only [EE]; exact rfl) | exact rfl)); (try simp only [SS, Nat.reduceAdd]))
             ((with_reducible apply l_assign); (focus (first | (simp only [EE]; done) | (simp only [EE]; exact rfl) | exact rfl)); (try simp only [SS, Nat.reduceAdd]))
             (with_reducible apply wpList_nil))
          | ((with_reducible apply (wp_region_seq (id := 1)))
             ((with_reducible apply p_loadN); (focus exact rfl); (focus (first | assumption | ((first | (apply rb; assumption) | (apply rx; assumption)); (focus (repeat (first | exact xr _ | assumption | (apply xt; assumption))))))); (focus exact rfl); (try simp only [SS, Nat.reduceAdd]))
             ((with_reducible apply p_enter); (focus (first | (simp only [EE]; done) | (simp only [EE]; exact rfl) | exact rfl)); first | ((focus (intro w1 hw1; (with_reducible refine (checkSeries8_any _ _).mono ?_);  rintro e w7 ⟨rfl, hx7⟩; exact ⟨rfl, hx7⟩)); (try simp only [SS, Nat.reduceAdd])))
             ((with_reducible apply p_neq); (focus exact rfl); (focus exact rfl); (try simp only [SS, Nat.reduceAdd]))
             ((with_reducible apply p_move); (focus (first | (simp only [EE]; done) | (simp only [EE]; exact rfl) | exact rfl)); (try simp only [SS, Nat.reduceAdd]))
             ((with_reducible apply par_cf); (focus exact rfl); (focus exact rfl); (focus (intro hg1 w1 hx K hK; have hq1 := hg1; (try simp only [decide_eq_true_eq, decide_eq_false_iff_not, Int.not_lt, Int.not_le] at hq1); (try simp only [hg1, GS2] at hK ⊢); ((with_reducible apply r_loadN); (focus exact rfl); (focus (first | assumption | ((first | (apply rb; assumption) | (apply rx; assumption)); (focus (repeat (first | exact xr _ | assumption | (apply xt; assumption))))))); (focus exact rfl); exact hK _ (Ext.refl _)))); (try simp only [SS, Nat.reduceAdd]))
             ((with_reducible apply par_cf); (focus exact rfl); (focus exact rfl); (focus (intro hg1 w1 hx K hK; have hq1 := hg1; (try simp only [decide_eq_true_eq, decide_eq_false_iff_not, Int.not_lt, Int.not_le] at hq1); (try simp only [hg1, GS2] at hK ⊢); ((with_reducible apply r_move); (focus (first | (simp only [EE]; done) | (simp only [EE]; exact rfl) | exact rfl)); exact hK _ (Ext.refl _)))); (try simp only [SS, Nat.reduceAdd]))
             ((with_reducible apply par_cf); (focus exact rfl); (focus exact rfl); (focus (intro hg1 w1 hx K hK; have hq1 := hg1; (try simp only [decide_eq_true_eq, decide_eq_false_iff_not, Int.not_lt, Int.not_le] at hq1); (try simp only [hg1, GS2] at hK ⊢); ((with_reducible apply r_enter); (focus (first | (simp only [EE]; done) | (simp only [EE]; exact rfl) | exact rfl)); first | ((with_reducible refine (isOf8_any _ _ _).mono ?_);  rintro e w12 ⟨rfl, hx12⟩; exact hK _ hx12)))); (try simp only [SS, Nat.reduceAdd]))
             ((with_reducible apply par_cf); (focus exact rfl); (focus exact rfl); (focus (intro hg1 w1 hx K hK; have hq1 := hg1; (try simp only [decide_eq_true_eq, decide_eq_false_iff_not, Int.not_lt, Int.not_le] at hq1); (try simp only [hg1, GS2] at hK ⊢); ((with_reducible apply r_not); (focus exact rfl); exact hK _ (Ext.refl _)))); (try simp only [SS, Nat.reduceAdd]))
             ((with_reducible apply p_or); (focus exact rfl); (focus exact rfl); (try simp only [SS, Nat.reduceAdd]))
             ((with_reducible apply par_nil); intro v1 hv1 _))
          | ((with_reducible apply (wp_region_lit (id := 2)))
             ((with_reducible apply l_assign); (focus (first | (simp only [EE]; done) | (simp only [EE]; exact rfl) | exact rfl)); (try simp only [SS, Nat.reduceAdd]))
             ((with_reducible apply l_assign); (focus (first | (simp only [EE]; done) | (simp only [EE]; exact rfl) | exact rfl)); (try simp only [SS, Nat.reduceAdd]))
             (with_reducible apply wpList_nil))
          | ((with_reducible apply (wp_region_lit (id := 3)))
             ((with_reducible apply l_move); (focus (first | (simp only [EE]; done) | (simp only [EE]; exact rfl) | exact rfl)); (try simp only [SS, Nat.reduceAdd]))
             ((with_reducible apply l_fieldAddr); (focus exact rfl); (try simp only [SS, Nat.reduceAdd]))
             ((with_reducible apply l_load1); (focus exact rfl); (focus (first | assumption | ((apply cx); (focus assumption); (focus (repeat (first | exact xr _ | assumption | (apply xt; assumption)))); done) | ((first | (apply cb; assumption) | (apply c0; assumption) | (apply cr; assumption) | (apply cp; assumption)); (focus (repeat (first | exact xr _ | assumption | (apply xt; assumption)))); exact rfl))); (try simp only [SS, Nat.reduceAdd]))
             ((with_reducible apply l_eql); (focus exact rfl); (focus exact rfl); (try simp only [SS, Nat.reduceAdd]))
             (with_reducible apply wpList_nil))
          | ((with_reducible apply (wp_region_lit (id := 4)))
             ((with_reducible apply l_fieldAddr); (focus exact rfl); (try simp only [SS, Nat.reduceAdd]))
             ((with_reducible apply l_load1); (focus exact rfl); (focus (first | assumption | ((apply cx); (focus assumption); (focus (repeat (first | exact xr _ | assumption | (apply xt; assumption)))); done) | ((first | (apply cb; assumption) | (apply c0; assumption) | (apply cr; assumption) | (apply cp; assumption)); (focus (repeat (first | exact xr _ | assumption | (apply xt; assumption)))); exact rfl))); (try simp only [SS, Nat.reduceAdd]))
             ((with_reducible apply l_assign); (focus (first | (simp only [EE]; done) | (simp only [EE]; exact rfl) | exact rfl)); (try simp only [SS, Nat.reduceAdd]))
             ((with_reducible apply l_assign); (focus (first | (simp only [EE]; done) | (simp only [EE]; exact rfl) | exact rfl)); (try simp only [SS, Nat.reduceAdd]))
             (with_reducible apply wpList_nil))
          | ((with_reducible apply (wp_region_lit (id := 5)))
             ((with_reducible apply l_move); (focus (first | (simp only [EE]; done) | (simp only [EE]; exact rfl) | exact rfl)); (try simp only [SS, Nat.reduceAdd]))
             ((with_reducible apply l_add); (focus exact rfl); (focus exact rfl); (focus (first | (apply IntWalk.i64_in; omega) | exact IntWalk.i64_left _)); (try simp only [SS, Nat.reduceAdd]))
             ((with_reducible apply l_assign); (focus (first | (simp only [EE]; done) | (simp only [EE]; exact rfl) | exact rfl)); (try simp only [SS, Nat.reduceAdd]))
             ((with_reducible apply l_assign); (focus (first | (simp only [EE]; done) | (simp only [EE]; exact rfl) | exact rfl)); (try simp only [SS, Nat.reduceAdd]))
             (with_reducible apply wpList_nil))
          | ((fail_if_success (with_reducible apply no_region)); (fail_if_success (with_reducible apply no_list)); (fail_if_success (with_reducible apply no_oper)); (fail_if_success (with_reducible apply no_par)); (fail_if_success (with_reducible apply no_loop)); go_step))
    all_goals
      go_ret2
      refine ⟨?_, (by (focus (repeat (first | exact xr _ | assumption | (apply xt; assumption)))))⟩
      simp_all [nextN]
  · go_enter Try.func14, Try.ntmps14
    repeat' (
        first
          | ((with_reducible apply wp_seq_k); intro K hK)
          | (simp only [Exit.then, Exit.inBlock, ↓reduceIte, Nat.reduceEqDiff])
          | with_reducible apply wp_block
          | with_reducible apply wp_skip
          | with_reducible apply wp_exit
          | ((with_reducible apply wp_cond_true); (focus exact rfl))
          | ((with_reducible apply wp_cond_false); (focus exact rfl))
          | (((with_reducible apply wp_cond_split); (focus exact rfl)) <;> intro hb <;> (try simp only [bne_iff_ne, ne_eq, bne_eq_false_iff_eq, beq_iff_eq, beq_eq_false_iff_ne, decide_eq_true_eq, decide_eq_false_iff_not, Bool.not_eq_true', Bool.not_eq_false', Bool.and_eq_true, Bool.or_eq_true, Bool.and_eq_false_iff, Bool.or_eq_false_iff, Int.not_lt, Int.not_le, Bool.not_eq_true, Bool.not_eq_false] at hb) <;> (try (have hbl := And.left hb; have hbr := And.right hb)) <;> (try (have hbll := And.left hbl; have hblr := And.right hbl)) <;> (try first | contradiction | exact (bff hb (by assumption)).elim | exact (bft hb (by assumption)).elim | (exfalso; omega)))
          | ((with_reducible apply (wp_region_lit (id := 0)))
             ((with_reducible apply l_boxN); (focus exact rfl); intro g2 w2 hb2 hx2 hg2; (try simp only [SS, Nat.reduceAdd]))
             ((with_reducible apply l_assign); (focus (first | (simp only [EE]; done) | (simp only [EE]; exact rfl) | exact rfl)); (try simp only [SS, Nat.reduceAdd]))
             ((with_reducible apply l_assign); (focus (first | (simp only [EE]; done) | (simp only [EE]; exact rfl) | exact rfl)); (try simp only [SS, Nat.reduceAdd]))
             (with_reducible apply wpList_nil))
          | ((with_reducible apply (wp_region_seq (id := 1)))
             ((with_reducible apply p_loadN); (focus exact rfl); (focus (first | assumption | ((first | (apply rb; assumption) | (apply rx; assumption)); (focus (repeat (first | exact xr _ | assumption | (apply xt; assumption))))))); (focus exact rfl); (try simp only [SS, Nat.reduceAdd]))
             ((with_reducible apply p_enter); (focus (first | (simp only [EE]; done) | (simp only [EE]; exact rfl) | exact rfl)); first | ((focus (intro w1 hw1; (with_reducible refine (checkSeries8_any _ _).mono ?_);  rintro e w7 ⟨rfl, hx7⟩; exact ⟨rfl, hx7⟩)); (try simp only [SS, Nat.reduceAdd])))
             ((with_reducible apply p_neq); (focus exact rfl); (focus exact rfl); (try simp only [SS, Nat.reduceAdd]))
             ((with_reducible apply p_move); (focus (first | (simp only [EE]; done) | (simp only [EE]; exact rfl) | exact rfl)); (try simp only [SS, Nat.reduceAdd]))
             ((with_reducible apply par_cf); (focus exact rfl); (focus exact rfl); (focus (intro hg1 w1 hx K hK; have hq1 := hg1; (try simp only [decide_eq_true_eq, decide_eq_false_iff_not, Int.not_lt, Int.not_le] at hq1); (try simp only [hg1, GS2] at hK ⊢); ((with_reducible apply r_loadN); (focus exact rfl); (focus (first | assumption | ((first | (apply rb; assumption) | (apply rx; assumption)); (focus (repeat (first | exact xr _ | assumption | (apply xt; assumption))))))); (focus exact rfl); exact hK _ (Ext.refl _)))); (try simp only [SS, Nat.reduceAdd]))
             ((with_reducible apply par_cf); (focus exact rfl); (focus exact rfl); (focus (intro hg1 w1 hx K hK; have hq1 := hg1; (try simp only [decide_eq_true_eq, decide_eq_false_iff_not, Int.not_lt, Int.not_le] at hq1); (try simp only [hg1, GS2] at hK ⊢); ((with_reducible apply r_move); (focus (first | (simp only [EE]; done) | (simp only [EE]; exact rfl) | exact rfl)); exact hK _ (Ext.refl _)))); (try simp only [SS, Nat.reduceAdd]))
             ((with_reducible apply par_cf); (focus exact rfl); (focus exact rfl); (focus (intro hg1 w1 hx K hK; have hq1 := hg1; (try simp only [decide_eq_true_eq, decide_eq_false_iff_not, Int.not_lt, Int.not_le] at hq1); (try simp only [hg1, GS2] at hK ⊢); ((with_reducible apply r_enter); (focus (first | (simp only [EE]; done) | (simp only [EE]; exact rfl) | exact rfl)); first | ((with_reducible refine (isOf8_any _ _ _).mono ?_);  rintro e w12 ⟨rfl, hx12⟩; exact hK _ hx12)))); (try simp only [SS, Nat.reduceAdd]))
             ((with_reducible apply par_cf); (focus exact rfl); (focus exact rfl); (focus (intro hg1 w1 hx K hK; have hq1 := hg1; (try simp only [decide_eq_true_eq, decide_eq_false_iff_not, Int.not_lt, Int.not_le] at hq1); (try simp only [hg1, GS2] at hK ⊢); ((with_reducible apply r_not); (focus exact rfl); exact hK _ (Ext.refl _)))); (try simp only [SS, Nat.reduceAdd]))
             ((with_reducible apply p_or); (focus exact rfl); (focus exact rfl); (try simp only [SS, Nat.reduceAdd]))
             ((with_reducible apply par_nil); intro v1 hv1 _))
          | ((with_reducible apply (wp_region_lit (id := 2)))
             ((with_reducible apply l_assign); (focus (first | (simp only [EE]; done) | (simp only [EE]; exact rfl) | exact rfl)); (try simp only [SS, Nat.reduceAdd]))
             ((with_reducible apply l_assign); (focus (first | (simp only [EE]; done) | (simp only [EE]; exact rfl) | exact rfl)); (try simp only [SS, Nat.reduceAdd]))
             (with_reducible apply wpList_nil))
          | ((with_reducible apply (wp_region_lit (id := 3)))
             ((with_reducible apply l_move); (focus (first | (simp only [EE]; done) | (simp only [EE]; exact rfl) | exact rfl)); (try simp only [SS, Nat.reduceAdd]))
             ((with_reducible apply l_fieldAddr); (focus exact rfl); (try simp only [SS, Nat.reduceAdd]))
             ((with_reducible apply l_load1); (focus exact rfl); (focus (first | assumption | ((apply cx); (focus assumption); (focus (repeat (first | exact xr _ | assumption | (apply xt; assumption)))); done) | ((first | (apply cb; assumption) | (apply c0; assumption) | (apply cr; assumption) | (apply cp; assumption)); (focus (repeat (first | exact xr _ | assumption | (apply xt; assumption)))); exact rfl))); (try simp only [SS, Nat.reduceAdd]))
             ((with_reducible apply l_eql); (focus exact rfl); (focus exact rfl); (try simp only [SS, Nat.reduceAdd]))
             (with_reducible apply wpList_nil))
          | ((with_reducible apply (wp_region_lit (id := 4)))
             ((with_reducible apply l_fieldAddr); (focus exact rfl); (try simp only [SS, Nat.reduceAdd]))
             ((with_reducible apply l_load1); (focus exact rfl); (focus (first | assumption | ((apply cx); (focus assumption); (focus (repeat (first | exact xr _ | assumption | (apply xt; assumption)))); done) | ((first | (apply cb; assumption) | (apply c0; assumption) | (apply cr; assumption) | (apply cp; assumption)); (focus (repeat (first | exact xr _ | assumption | (apply xt; assumption)))); exact rfl))); (try simp only [SS, Nat.reduceAdd]))
             ((with_reducible apply l_assign); (focus (first | (simp only [EE]; done) | (simp only [EE]; exact rfl) | exact rfl)); (try simp only [SS, Nat.reduceAdd]))
             ((with_reducible apply l_assign); (focus (first | (simp only [EE]; done) | (simp only [EE]; exact rfl) | exact rfl)); (try simp only [SS, Nat.reduceAdd]))
             (with_reducible apply wpList_nil))
          | ((with_reducible apply (wp_region_lit (id := 5)))
             ((with_reducible apply l_move); (focus (first | (simp only [EE]; done) | (simp only [EE]; exact rfl) | exact rfl)); (try simp only [SS, Nat.reduceAdd]))
             ((with_reducible apply l_add); (focus exact rfl); (focus exact rfl); (focus (first | (apply IntWalk.i64_in; omega) | exact IntWalk.i64_left _)); (try simp only [SS, Nat.reduceAdd]))
             ((with_reducible apply l_assign); (focus (first | (simp only [EE]; done) | (simp only [EE]; exact rfl) | exact rfl)); (try simp only [SS, Nat.reduceAdd]))
             ((with_reducible apply l_assign); (focus (first | (simp only [EE]; done) | (simp only [EE]; exact rfl) | exact rfl)); (try simp only [SS, Nat.reduceAdd]))
             (with_reducible apply wpList_nil))
          | ((fail_if_success (with_reducible apply no_region)); (fail_if_success (with_reducible apply no_list)); (fail_if_success (with_reducible apply no_oper)); (fail_if_success (with_reducible apply no_par)); (fail_if_success (with_reducible apply no_loop)); go_step))
    all_goals rcases seriesFault_01 s with h01 | h01
    all_goals first
      | (exfalso; simp_all; done)
      | (go_ret2
         refine ⟨?_, (by (focus (repeat (first | exact xr _ | assumption | (apply xt; assumption)))))⟩
         simp_all [nextN]
         done)
      | skip
end Go.Proofs.Ytdopillligfdiaa
