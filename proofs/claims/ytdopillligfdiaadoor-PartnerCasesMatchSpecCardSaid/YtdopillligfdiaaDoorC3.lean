/- Contracts: what is wrong with a case; whether an agreement applies to it; the walk of PartnerCasesMatchSpec. -/
import Derived.Test.YtdopillligfdiaaDoorC1
import Derived.Test.YtdopillligfdiaaDoorS0
namespace Go.Proofs.YtdopillligfdiaaDoor
set_option linter.unusedSimpArgs false
set_option linter.unusedVariables false
open Go.RowKit
set_option maxRecDepth 100000
set_option maxHeartbeats 2000000

structure Cas.Ok (c : Cas) : Prop where
  fr : Str.Ok c.fr
  tgt : Str.Ok c.tgt
  msg : Str.Ok c.msg
  ver : Str.Ok c.ver
def restFaultN (c : Cas) : Int := if (!isNameB c.msg || !isNameB c.ver) = true then 5 else if outB c.day 1 3652059 = true then 1 else 0
def caseFaultN (c : Cas) : Int := if (!isNameB c.fr || !isNameB c.tgt) = true then 5 else restFaultN c
def AppliesN (a : Agr) (c : Cas) : Bool × Int := if ownFaultN a ≠ 0 then (false, ownFaultN a) else if caseFaultN c ≠ 0 then (false, caseFaultN c) else (appliesB a c, 0)
theorem isDayK_any (n : Int) (w : World) :
    Calls Tryd.prog 117 #[.int .i64 n] w fun e w' => e = .returned (.bool (!outB n 1 3652059)) ∧ Ext w w' := by
  go_enter Tryd.func117, Tryd.ntmps117
  repeat' (
      first
        | ((with_reducible apply wp_seq_k); intro K hK)
        | (simp only [Exit.then, Exit.inBlock, ↓reduceIte, Nat.reduceEqDiff])
        | with_reducible apply wp_block
        | with_reducible apply wp_skip
        | with_reducible apply wp_exit
        | ((with_reducible apply wp_cond_true); (focus exact rfl))
        | ((with_reducible apply wp_cond_false); (focus exact rfl))
        | (((with_reducible apply wp_cond_split); (focus exact rfl)) <;> intro hb <;> (try simp only [bne_iff_ne, ne_eq, bne_eq_false_iff_eq, beq_iff_eq, beq_eq_false_iff_ne, decide_eq_true_eq, decide_eq_false_iff_not, Bool.not_eq_true', Bool.not_eq_false', Bool.and_eq_true, Bool.or_eq_true, Bool.and_eq_false_iff, Bool.or_eq_false_iff, Int.not_lt, Int.not_le, Bool.not_eq_true, Bool.not_eq_false] at hb) <;> (try (have hbl := And.left hb; have hbr := And.right hb)) <;> (try (have hbll := And.left hbl; have hblr := And.right hbl)) <;> (try first | contradiction | exact (bff hb (by assumption)).elim | exact (bft hb (by assumption)).elim | (exfalso; omega)))
        | ((with_reducible apply (wp_region_lit (id := 0)))
           ((with_reducible apply l_assign); (focus (first | (simp only [EE]; done) | (simp only [EE]; exact rfl) | exact rfl)); (try simp only [SS, Nat.reduceAdd]))
           (with_reducible apply wpList_nil))
        | ((with_reducible apply (wp_region_lit (id := 1)))
           ((with_reducible apply l_move); (focus (first | (simp only [EE]; done) | (simp only [EE]; exact rfl) | exact rfl)); (try simp only [SS, Nat.reduceAdd]))
           ((with_reducible apply l_enter); (focus (first | (simp only [EE]; done) | (simp only [EE]; exact rfl) | exact rfl)); first | ((with_reducible refine (outside_any _ _ _ _).mono ?_);  rintro e w4 ⟨rfl, hx4⟩; (try simp only []); (try simp only [SS, Nat.reduceAdd])))
           ((with_reducible apply l_not); (focus exact rfl); (try simp only [SS, Nat.reduceAdd]))
           ((with_reducible apply l_assign); (focus (first | (simp only [EE]; done) | (simp only [EE]; exact rfl) | exact rfl)); (try simp only [SS, Nat.reduceAdd]))
           (with_reducible apply wpList_nil))
        | ((fail_if_success (with_reducible apply no_region)); (fail_if_success (with_reducible apply no_list)); (fail_if_success (with_reducible apply no_oper)); (fail_if_success (with_reducible apply no_par)); (fail_if_success (with_reducible apply no_loop)); go_step))
  all_goals
    go_ret
    refine ⟨ret_bool ?_, (by (focus (repeat (first | exact xr _ | assumption | (apply xt; assumption)))))⟩
    rfl
theorem restFault_any (c : Cas) (w : World) (hc : c.Ok) :
    Calls Tryd.prog 81 #[c.v] w fun e w' => e = .returned (.int .i64 (restFaultN c)) ∧ Ext w w' := by
  obtain ⟨h1, h2, h3, h4⟩ := hc
  go_enter Tryd.func81, Tryd.ntmps81
  repeat' (
      first
        | ((with_reducible apply wp_seq_k); intro K hK)
        | (simp only [Exit.then, Exit.inBlock, ↓reduceIte, Nat.reduceEqDiff])
        | with_reducible apply wp_block
        | with_reducible apply wp_skip
        | with_reducible apply wp_exit
        | ((with_reducible apply wp_cond_true); (focus exact rfl))
        | ((with_reducible apply wp_cond_false); (focus exact rfl))
        | (((with_reducible apply wp_cond_split); (focus exact rfl)) <;> intro hb <;> (try simp only [bne_iff_ne, ne_eq, bne_eq_false_iff_eq, beq_iff_eq, beq_eq_false_iff_ne, decide_eq_true_eq, decide_eq_false_iff_not, Bool.not_eq_true', Bool.not_eq_false', Bool.and_eq_true, Bool.or_eq_true, Bool.and_eq_false_iff, Bool.or_eq_false_iff, Int.not_lt, Int.not_le, Bool.not_eq_true, Bool.not_eq_false] at hb) <;> (try (have hbl := And.left hb; have hbr := And.right hb)) <;> (try (have hbll := And.left hbl; have hblr := And.right hbl)) <;> (try first | contradiction | exact (bff hb (by assumption)).elim | exact (bft hb (by assumption)).elim | (exfalso; omega)))
        | ((with_reducible apply (wp_region_lit (id := 0)))
           ((with_reducible apply l_boxN); (focus exact rfl); intro g1 w1 hb1 hx1 hg1; (try simp only [SS, Nat.reduceAdd]))
           ((with_reducible apply l_assign); (focus (first | (simp only [EE]; done) | (simp only [EE]; exact rfl) | exact rfl)); (try simp only [SS, Nat.reduceAdd]))
           (with_reducible apply wpList_nil))
        | ((with_reducible apply (wp_region_seq (id := 1)))
           ((with_reducible apply p_fieldAddr); (focus exact rfl); (try simp only [SS, Nat.reduceAdd]))
           ((with_reducible apply p_load1); (focus exact rfl); (focus (first | assumption | ((apply cx); (focus assumption); (focus (repeat (first | exact xr _ | assumption | (apply xt; assumption)))); done) | ((first | (apply cb; assumption) | (apply c0; assumption) | (apply cr; assumption) | (apply cp; assumption)); (focus (repeat (first | exact xr _ | assumption | (apply xt; assumption)))); exact rfl))); (try simp only [SS, Nat.reduceAdd]))
           ((with_reducible apply p_enter); (focus (first | (simp only [EE]; done) | (simp only [EE]; exact rfl) | exact rfl)); first | ((focus (intro w1 hw1; (with_reducible refine (isName_any _ _ ?_).mono ?_); (focus (first | assumption | exact rfl | omega | ((apply SlR.ext); (focus assumption); (focus (repeat (first | exact xr _ | assumption | (apply xt; assumption)))); done) | ((apply Own.ext); (focus assumption); (focus (repeat (first | exact xr _ | assumption | (apply xt; assumption)))); done) | (simp; done))); rintro e w5 ⟨rfl, hx5⟩; exact ⟨rfl, hx5⟩)); (try simp only [SS, Nat.reduceAdd])))
           ((with_reducible apply p_not); (focus exact rfl); (try simp only [SS, Nat.reduceAdd]))
           ((with_reducible apply p_move); (focus (first | (simp only [EE]; done) | (simp only [EE]; exact rfl) | exact rfl)); (try simp only [SS, Nat.reduceAdd]))
           ((with_reducible apply par_cf); (focus exact rfl); (focus exact rfl); (focus (intro hg1 w1 hx K hK; have hq1 := hg1; (try simp only [decide_eq_true_eq, decide_eq_false_iff_not, Int.not_lt, Int.not_le] at hq1); (try simp only [hg1, GS2] at hK ⊢); ((with_reducible apply r_fieldAddr); (focus exact rfl); exact hK _ (Ext.refl _)))); (try simp only [SS, Nat.reduceAdd]))
           ((with_reducible apply par_cf); (focus exact rfl); (focus exact rfl); (focus (intro hg1 w1 hx K hK; have hq1 := hg1; (try simp only [decide_eq_true_eq, decide_eq_false_iff_not, Int.not_lt, Int.not_le] at hq1); (try simp only [hg1, GS2] at hK ⊢); ((with_reducible apply r_load1); (focus exact rfl); (focus (first | assumption | ((apply cx); (focus assumption); (focus (repeat (first | exact xr _ | assumption | (apply xt; assumption)))); done) | ((first | (apply cb; assumption) | (apply c0; assumption) | (apply cr; assumption) | (apply cp; assumption)); (focus (repeat (first | exact xr _ | assumption | (apply xt; assumption)))); exact rfl))); exact hK _ (Ext.refl _)))); (try simp only [SS, Nat.reduceAdd]))
           ((with_reducible apply par_cf); (focus exact rfl); (focus exact rfl); (focus (intro hg1 w1 hx K hK; have hq1 := hg1; (try simp only [decide_eq_true_eq, decide_eq_false_iff_not, Int.not_lt, Int.not_le] at hq1); (try simp only [hg1, GS2] at hK ⊢); ((with_reducible apply r_enter); (focus (first | (simp only [EE]; done) | (simp only [EE]; exact rfl) | exact rfl)); first | ((with_reducible refine (isName_any _ _ ?_).mono ?_); (focus (first | assumption | exact rfl | omega | ((apply SlR.ext); (focus assumption); (focus (repeat (first | exact xr _ | assumption | (apply xt; assumption)))); done) | ((apply Own.ext); (focus assumption); (focus (repeat (first | exact xr _ | assumption | (apply xt; assumption)))); done) | (simp; done))); rintro e w10 ⟨rfl, hx10⟩; exact hK _ hx10)))); (try simp only [SS, Nat.reduceAdd]))
           ((with_reducible apply par_cf); (focus exact rfl); (focus exact rfl); (focus (intro hg1 w1 hx K hK; have hq1 := hg1; (try simp only [decide_eq_true_eq, decide_eq_false_iff_not, Int.not_lt, Int.not_le] at hq1); (try simp only [hg1, GS2] at hK ⊢); ((with_reducible apply r_not); (focus exact rfl); exact hK _ (Ext.refl _)))); (try simp only [SS, Nat.reduceAdd]))
           ((with_reducible apply p_or); (focus exact rfl); (focus exact rfl); (try simp only [SS, Nat.reduceAdd]))
           ((with_reducible apply par_nil); intro v1 hv1 _))
        | ((with_reducible apply (wp_region_lit (id := 2)))
           ((with_reducible apply l_assign); (focus (first | (simp only [EE]; done) | (simp only [EE]; exact rfl) | exact rfl)); (try simp only [SS, Nat.reduceAdd]))
           (with_reducible apply wpList_nil))
        | ((with_reducible apply (wp_region_lit (id := 3)))
           ((with_reducible apply l_fieldAddr); (focus exact rfl); (try simp only [SS, Nat.reduceAdd]))
           ((with_reducible apply l_load1); (focus exact rfl); (focus (first | assumption | ((apply cx); (focus assumption); (focus (repeat (first | exact xr _ | assumption | (apply xt; assumption)))); done) | ((first | (apply cb; assumption) | (apply c0; assumption) | (apply cr; assumption) | (apply cp; assumption)); (focus (repeat (first | exact xr _ | assumption | (apply xt; assumption)))); exact rfl))); (try simp only [SS, Nat.reduceAdd]))
           ((with_reducible apply l_enter); (focus (first | (simp only [EE]; done) | (simp only [EE]; exact rfl) | exact rfl)); first | ((with_reducible refine (isDayK_any _ _).mono ?_);  rintro e w15 ⟨rfl, hx15⟩; (try simp only []); (try simp only [SS, Nat.reduceAdd])))
           ((with_reducible apply l_not); (focus exact rfl); (try simp only [SS, Nat.reduceAdd]))
           (with_reducible apply wpList_nil))
        | ((with_reducible apply (wp_region_lit (id := 4)))
           ((with_reducible apply l_assign); (focus (first | (simp only [EE]; done) | (simp only [EE]; exact rfl) | exact rfl)); (try simp only [SS, Nat.reduceAdd]))
           (with_reducible apply wpList_nil))
        | ((with_reducible apply (wp_region_lit (id := 5)))
           ((with_reducible apply l_assign); (focus (first | (simp only [EE]; done) | (simp only [EE]; exact rfl) | exact rfl)); (try simp only [SS, Nat.reduceAdd]))
           (with_reducible apply wpList_nil))
        | ((fail_if_success (with_reducible apply no_region)); (fail_if_success (with_reducible apply no_list)); (fail_if_success (with_reducible apply no_oper)); (fail_if_success (with_reducible apply no_par)); (fail_if_success (with_reducible apply no_loop)); go_step))
  all_goals
    go_ret
    refine ⟨ret_int ?_, (by (focus (repeat (first | exact xr _ | assumption | (apply xt; assumption)))))⟩
    simp_all [restFaultN]
theorem checkCase_any (c : Cas) (w : World) (hc : c.Ok) :
    Calls Tryd.prog 82 #[c.v] w fun e w' => e = .returned (.int .i64 (restFaultN c)) ∧ Ext w w' := by
  obtain ⟨h1, h2, h3, h4⟩ := hc
  go_enter Tryd.func82, Tryd.ntmps82
  repeat' (
      first
        | ((with_reducible apply wp_seq_k); intro K hK)
        | (simp only [Exit.then, Exit.inBlock, ↓reduceIte, Nat.reduceEqDiff])
        | with_reducible apply wp_block
        | with_reducible apply wp_skip
        | with_reducible apply wp_exit
        | ((with_reducible apply wp_cond_true); (focus exact rfl))
        | ((with_reducible apply wp_cond_false); (focus exact rfl))
        | (((with_reducible apply wp_cond_split); (focus exact rfl)) <;> intro hb <;> (try simp only [bne_iff_ne, ne_eq, bne_eq_false_iff_eq, beq_iff_eq, beq_eq_false_iff_ne, decide_eq_true_eq, decide_eq_false_iff_not, Bool.not_eq_true', Bool.not_eq_false', Bool.and_eq_true, Bool.or_eq_true, Bool.and_eq_false_iff, Bool.or_eq_false_iff, Int.not_lt, Int.not_le, Bool.not_eq_true, Bool.not_eq_false] at hb) <;> (try (have hbl := And.left hb; have hbr := And.right hb)) <;> (try (have hbll := And.left hbl; have hblr := And.right hbl)) <;> (try first | contradiction | exact (bff hb (by assumption)).elim | exact (bft hb (by assumption)).elim | (exfalso; omega)))
        | ((with_reducible apply (wp_region_lit (id := 0)))
           ((with_reducible apply l_boxN); (focus exact rfl); intro g1 w1 hb1 hx1 hg1; (try simp only [SS, Nat.reduceAdd]))
           ((with_reducible apply l_assign); (focus (first | (simp only [EE]; done) | (simp only [EE]; exact rfl) | exact rfl)); (try simp only [SS, Nat.reduceAdd]))
           (with_reducible apply wpList_nil))
        | ((with_reducible apply (wp_region_seq (id := 1)))
           ((with_reducible apply p_fieldAddr); (focus exact rfl); (try simp only [SS, Nat.reduceAdd]))
           ((with_reducible apply p_load1); (focus exact rfl); (focus (first | assumption | ((apply cx); (focus assumption); (focus (repeat (first | exact xr _ | assumption | (apply xt; assumption)))); done) | ((first | (apply cb; assumption) | (apply c0; assumption) | (apply cr; assumption) | (apply cp; assumption)); (focus (repeat (first | exact xr _ | assumption | (apply xt; assumption)))); exact rfl))); (try simp only [SS, Nat.reduceAdd]))
           ((with_reducible apply p_enter); (focus (first | (simp only [EE]; done) | (simp only [EE]; exact rfl) | exact rfl)); first | ((focus (intro w1 hw1; (with_reducible refine (isName18_any _ _ ?_).mono ?_); (focus (first | assumption | exact rfl | omega | ((apply SlR.ext); (focus assumption); (focus (repeat (first | exact xr _ | assumption | (apply xt; assumption)))); done) | ((apply Own.ext); (focus assumption); (focus (repeat (first | exact xr _ | assumption | (apply xt; assumption)))); done) | (simp; done))); rintro e w5 ⟨rfl, hx5⟩; exact ⟨rfl, hx5⟩)); (try simp only [SS, Nat.reduceAdd])))
           ((with_reducible apply p_not); (focus exact rfl); (try simp only [SS, Nat.reduceAdd]))
           ((with_reducible apply p_move); (focus (first | (simp only [EE]; done) | (simp only [EE]; exact rfl) | exact rfl)); (try simp only [SS, Nat.reduceAdd]))
           ((with_reducible apply par_cf); (focus exact rfl); (focus exact rfl); (focus (intro hg1 w1 hx K hK; have hq1 := hg1; (try simp only [decide_eq_true_eq, decide_eq_false_iff_not, Int.not_lt, Int.not_le] at hq1); (try simp only [hg1, GS2] at hK ⊢); ((with_reducible apply r_fieldAddr); (focus exact rfl); exact hK _ (Ext.refl _)))); (try simp only [SS, Nat.reduceAdd]))
           ((with_reducible apply par_cf); (focus exact rfl); (focus exact rfl); (focus (intro hg1 w1 hx K hK; have hq1 := hg1; (try simp only [decide_eq_true_eq, decide_eq_false_iff_not, Int.not_lt, Int.not_le] at hq1); (try simp only [hg1, GS2] at hK ⊢); ((with_reducible apply r_load1); (focus exact rfl); (focus (first | assumption | ((apply cx); (focus assumption); (focus (repeat (first | exact xr _ | assumption | (apply xt; assumption)))); done) | ((first | (apply cb; assumption) | (apply c0; assumption) | (apply cr; assumption) | (apply cp; assumption)); (focus (repeat (first | exact xr _ | assumption | (apply xt; assumption)))); exact rfl))); exact hK _ (Ext.refl _)))); (try simp only [SS, Nat.reduceAdd]))
           ((with_reducible apply par_cf); (focus exact rfl); (focus exact rfl); (focus (intro hg1 w1 hx K hK; have hq1 := hg1; (try simp only [decide_eq_true_eq, decide_eq_false_iff_not, Int.not_lt, Int.not_le] at hq1); (try simp only [hg1, GS2] at hK ⊢); ((with_reducible apply r_enter); (focus (first | (simp only [EE]; done) | (simp only [EE]; exact rfl) | exact rfl)); first | ((with_reducible refine (isName18_any _ _ ?_).mono ?_); (focus (first | assumption | exact rfl | omega | ((apply SlR.ext); (focus assumption); (focus (repeat (first | exact xr _ | assumption | (apply xt; assumption)))); done) | ((apply Own.ext); (focus assumption); (focus (repeat (first | exact xr _ | assumption | (apply xt; assumption)))); done) | (simp; done))); rintro e w10 ⟨rfl, hx10⟩; exact hK _ hx10)))); (try simp only [SS, Nat.reduceAdd]))
           ((with_reducible apply par_cf); (focus exact rfl); (focus exact rfl); (focus (intro hg1 w1 hx K hK; have hq1 := hg1; (try simp only [decide_eq_true_eq, decide_eq_false_iff_not, Int.not_lt, Int.not_le] at hq1); (try simp only [hg1, GS2] at hK ⊢); ((with_reducible apply r_not); (focus exact rfl); exact hK _ (Ext.refl _)))); (try simp only [SS, Nat.reduceAdd]))
           ((with_reducible apply p_or); (focus exact rfl); (focus exact rfl); (try simp only [SS, Nat.reduceAdd]))
           ((with_reducible apply par_nil); intro v1 hv1 _))
        | ((with_reducible apply (wp_region_lit (id := 2)))
           ((with_reducible apply l_assign); (focus (first | (simp only [EE]; done) | (simp only [EE]; exact rfl) | exact rfl)); (try simp only [SS, Nat.reduceAdd]))
           (with_reducible apply wpList_nil))
        | ((with_reducible apply (wp_region_lit (id := 3)))
           ((with_reducible apply l_fieldAddr); (focus exact rfl); (try simp only [SS, Nat.reduceAdd]))
           ((with_reducible apply l_load1); (focus exact rfl); (focus (first | assumption | ((apply cx); (focus assumption); (focus (repeat (first | exact xr _ | assumption | (apply xt; assumption)))); done) | ((first | (apply cb; assumption) | (apply c0; assumption) | (apply cr; assumption) | (apply cp; assumption)); (focus (repeat (first | exact xr _ | assumption | (apply xt; assumption)))); exact rfl))); (try simp only [SS, Nat.reduceAdd]))
           ((with_reducible apply l_enter); (focus (first | (simp only [EE]; done) | (simp only [EE]; exact rfl) | exact rfl)); first | ((with_reducible refine (isDay18_any _ _).mono ?_);  rintro e w15 ⟨rfl, hx15⟩; (try simp only []); (try simp only [SS, Nat.reduceAdd])))
           ((with_reducible apply l_not); (focus exact rfl); (try simp only [SS, Nat.reduceAdd]))
           (with_reducible apply wpList_nil))
        | ((with_reducible apply (wp_region_lit (id := 4)))
           ((with_reducible apply l_assign); (focus (first | (simp only [EE]; done) | (simp only [EE]; exact rfl) | exact rfl)); (try simp only [SS, Nat.reduceAdd]))
           (with_reducible apply wpList_nil))
        | ((with_reducible apply (wp_region_lit (id := 5)))
           ((with_reducible apply l_assign); (focus (first | (simp only [EE]; done) | (simp only [EE]; exact rfl) | exact rfl)); (try simp only [SS, Nat.reduceAdd]))
           (with_reducible apply wpList_nil))
        | ((fail_if_success (with_reducible apply no_region)); (fail_if_success (with_reducible apply no_list)); (fail_if_success (with_reducible apply no_oper)); (fail_if_success (with_reducible apply no_par)); (fail_if_success (with_reducible apply no_loop)); go_step))
  all_goals
    go_ret
    refine ⟨ret_int ?_, (by (focus (repeat (first | exact xr _ | assumption | (apply xt; assumption)))))⟩
    simp_all [restFaultN]
theorem caseFault_any (c : Cas) (w : World) (hc : c.Ok) :
    Calls Tryd.prog 56 #[c.v] w fun e w' => e = .returned (.int .i64 (caseFaultN c)) ∧ Ext w w' := by
  have hc' := hc
  obtain ⟨h1, h2, h3, h4⟩ := hc
  go_enter Tryd.func56, Tryd.ntmps56
  repeat' (
      first
        | ((with_reducible apply wp_seq_k); intro K hK)
        | (simp only [Exit.then, Exit.inBlock, ↓reduceIte, Nat.reduceEqDiff])
        | with_reducible apply wp_block
        | with_reducible apply wp_skip
        | with_reducible apply wp_exit
        | ((with_reducible apply wp_cond_true); (focus exact rfl))
        | ((with_reducible apply wp_cond_false); (focus exact rfl))
        | (((with_reducible apply wp_cond_split); (focus exact rfl)) <;> intro hb <;> (try simp only [bne_iff_ne, ne_eq, bne_eq_false_iff_eq, beq_iff_eq, beq_eq_false_iff_ne, decide_eq_true_eq, decide_eq_false_iff_not, Bool.not_eq_true', Bool.not_eq_false', Bool.and_eq_true, Bool.or_eq_true, Bool.and_eq_false_iff, Bool.or_eq_false_iff, Int.not_lt, Int.not_le, Bool.not_eq_true, Bool.not_eq_false] at hb) <;> (try (have hbl := And.left hb; have hbr := And.right hb)) <;> (try (have hbll := And.left hbl; have hblr := And.right hbl)) <;> (try first | contradiction | exact (bff hb (by assumption)).elim | exact (bft hb (by assumption)).elim | (exfalso; omega)))
        | ((with_reducible apply (wp_region_lit (id := 0)))
           ((with_reducible apply l_boxN); (focus exact rfl); intro g1 w1 hb1 hx1 hg1; (try simp only [SS, Nat.reduceAdd]))
           ((with_reducible apply l_assign); (focus (first | (simp only [EE]; done) | (simp only [EE]; exact rfl) | exact rfl)); (try simp only [SS, Nat.reduceAdd]))
           (with_reducible apply wpList_nil))
        | ((with_reducible apply (wp_region_seq (id := 1)))
           ((with_reducible apply p_fieldAddr); (focus exact rfl); (try simp only [SS, Nat.reduceAdd]))
           ((with_reducible apply p_load1); (focus exact rfl); (focus (first | assumption | ((apply cx); (focus assumption); (focus (repeat (first | exact xr _ | assumption | (apply xt; assumption)))); done) | ((first | (apply cb; assumption) | (apply c0; assumption) | (apply cr; assumption) | (apply cp; assumption)); (focus (repeat (first | exact xr _ | assumption | (apply xt; assumption)))); exact rfl))); (try simp only [SS, Nat.reduceAdd]))
           ((with_reducible apply p_enter); (focus (first | (simp only [EE]; done) | (simp only [EE]; exact rfl) | exact rfl)); first | ((focus (intro w1 hw1; (with_reducible refine (isName_any _ _ ?_).mono ?_); (focus (first | assumption | exact rfl | omega | ((apply SlR.ext); (focus assumption); (focus (repeat (first | exact xr _ | assumption | (apply xt; assumption)))); done) | ((apply Own.ext); (focus assumption); (focus (repeat (first | exact xr _ | assumption | (apply xt; assumption)))); done) | (simp; done))); rintro e w5 ⟨rfl, hx5⟩; exact ⟨rfl, hx5⟩)); (try simp only [SS, Nat.reduceAdd])))
           ((with_reducible apply p_not); (focus exact rfl); (try simp only [SS, Nat.reduceAdd]))
           ((with_reducible apply p_move); (focus (first | (simp only [EE]; done) | (simp only [EE]; exact rfl) | exact rfl)); (try simp only [SS, Nat.reduceAdd]))
           ((with_reducible apply par_cf); (focus exact rfl); (focus exact rfl); (focus (intro hg1 w1 hx K hK; have hq1 := hg1; (try simp only [decide_eq_true_eq, decide_eq_false_iff_not, Int.not_lt, Int.not_le] at hq1); (try simp only [hg1, GS2] at hK ⊢); ((with_reducible apply r_fieldAddr); (focus exact rfl); exact hK _ (Ext.refl _)))); (try simp only [SS, Nat.reduceAdd]))
           ((with_reducible apply par_cf); (focus exact rfl); (focus exact rfl); (focus (intro hg1 w1 hx K hK; have hq1 := hg1; (try simp only [decide_eq_true_eq, decide_eq_false_iff_not, Int.not_lt, Int.not_le] at hq1); (try simp only [hg1, GS2] at hK ⊢); ((with_reducible apply r_load1); (focus exact rfl); (focus (first | assumption | ((apply cx); (focus assumption); (focus (repeat (first | exact xr _ | assumption | (apply xt; assumption)))); done) | ((first | (apply cb; assumption) | (apply c0; assumption) | (apply cr; assumption) | (apply cp; assumption)); (focus (repeat (first | exact xr _ | assumption | (apply xt; assumption)))); exact rfl))); exact hK _ (Ext.refl _)))); (try simp only [SS, Nat.reduceAdd]))
           ((with_reducible apply par_cf); (focus exact rfl); (focus exact rfl); (focus (intro hg1 w1 hx K hK; have hq1 := hg1; (try simp only [decide_eq_true_eq, decide_eq_false_iff_not, Int.not_lt, Int.not_le] at hq1); (try simp only [hg1, GS2] at hK ⊢); ((with_reducible apply r_enter); (focus (first | (simp only [EE]; done) | (simp only [EE]; exact rfl) | exact rfl)); first | ((with_reducible refine (isName_any _ _ ?_).mono ?_); (focus (first | assumption | exact rfl | omega | ((apply SlR.ext); (focus assumption); (focus (repeat (first | exact xr _ | assumption | (apply xt; assumption)))); done) | ((apply Own.ext); (focus assumption); (focus (repeat (first | exact xr _ | assumption | (apply xt; assumption)))); done) | (simp; done))); rintro e w10 ⟨rfl, hx10⟩; exact hK _ hx10)))); (try simp only [SS, Nat.reduceAdd]))
           ((with_reducible apply par_cf); (focus exact rfl); (focus exact rfl); (focus (intro hg1 w1 hx K hK; have hq1 := hg1; (try simp only [decide_eq_true_eq, decide_eq_false_iff_not, Int.not_lt, Int.not_le] at hq1); (try simp only [hg1, GS2] at hK ⊢); ((with_reducible apply r_not); (focus exact rfl); exact hK _ (Ext.refl _)))); (try simp only [SS, Nat.reduceAdd]))
           ((with_reducible apply p_or); (focus exact rfl); (focus exact rfl); (try simp only [SS, Nat.reduceAdd]))
           ((with_reducible apply par_nil); intro v1 hv1 _))
        | ((with_reducible apply (wp_region_lit (id := 2)))
           ((with_reducible apply l_assign); (focus (first | (simp only [EE]; done) | (simp only [EE]; exact rfl) | exact rfl)); (try simp only [SS, Nat.reduceAdd]))
           (with_reducible apply wpList_nil))
        | ((with_reducible apply (wp_region_lit (id := 3)))
           ((with_reducible apply l_loadN); (focus exact rfl); (focus (first | assumption | ((first | (apply rb; assumption) | (apply rx; assumption)); (focus (repeat (first | exact xr _ | assumption | (apply xt; assumption))))))); (focus exact rfl); (try simp only [SS, Nat.reduceAdd]))
           ((with_reducible apply l_enter); (focus (first | (simp only [EE]; done) | (simp only [EE]; exact rfl) | exact rfl)); first | ((with_reducible refine (restFault_any _ _ ?_).mono ?_); (focus (first | assumption | exact rfl | omega | ((apply SlR.ext); (focus assumption); (focus (repeat (first | exact xr _ | assumption | (apply xt; assumption)))); done) | ((apply Own.ext); (focus assumption); (focus (repeat (first | exact xr _ | assumption | (apply xt; assumption)))); done) | (simp; done))); rintro e w14 ⟨rfl, hx14⟩; (try simp only []); (try simp only [SS, Nat.reduceAdd])))
           ((with_reducible apply l_assign); (focus (first | (simp only [EE]; done) | (simp only [EE]; exact rfl) | exact rfl)); (try simp only [SS, Nat.reduceAdd]))
           (with_reducible apply wpList_nil))
        | ((fail_if_success (with_reducible apply no_region)); (fail_if_success (with_reducible apply no_list)); (fail_if_success (with_reducible apply no_oper)); (fail_if_success (with_reducible apply no_par)); (fail_if_success (with_reducible apply no_loop)); go_step))
  all_goals
    go_ret
    refine ⟨ret_int ?_, (by (focus (repeat (first | exact xr _ | assumption | (apply xt; assumption)))))⟩
    simp_all [caseFaultN]
theorem checkWhole_any (c : Cas) (w : World) (hc : c.Ok) :
    Calls Tryd.prog 59 #[c.v] w fun e w' => e = .returned (.int .i64 (caseFaultN c)) ∧ Ext w w' := by
  have hc' := hc
  obtain ⟨h1, h2, h3, h4⟩ := hc
  go_enter Tryd.func59, Tryd.ntmps59
  repeat' (
      first
        | ((with_reducible apply wp_seq_k); intro K hK)
        | (simp only [Exit.then, Exit.inBlock, ↓reduceIte, Nat.reduceEqDiff])
        | with_reducible apply wp_block
        | with_reducible apply wp_skip
        | with_reducible apply wp_exit
        | ((with_reducible apply wp_cond_true); (focus exact rfl))
        | ((with_reducible apply wp_cond_false); (focus exact rfl))
        | (((with_reducible apply wp_cond_split); (focus exact rfl)) <;> intro hb <;> (try simp only [bne_iff_ne, ne_eq, bne_eq_false_iff_eq, beq_iff_eq, beq_eq_false_iff_ne, decide_eq_true_eq, decide_eq_false_iff_not, Bool.not_eq_true', Bool.not_eq_false', Bool.and_eq_true, Bool.or_eq_true, Bool.and_eq_false_iff, Bool.or_eq_false_iff, Int.not_lt, Int.not_le, Bool.not_eq_true, Bool.not_eq_false] at hb) <;> (try (have hbl := And.left hb; have hbr := And.right hb)) <;> (try (have hbll := And.left hbl; have hblr := And.right hbl)) <;> (try first | contradiction | exact (bff hb (by assumption)).elim | exact (bft hb (by assumption)).elim | (exfalso; omega)))
        | ((with_reducible apply (wp_region_lit (id := 0)))
           ((with_reducible apply l_boxN); (focus exact rfl); intro g1 w1 hb1 hx1 hg1; (try simp only [SS, Nat.reduceAdd]))
           ((with_reducible apply l_assign); (focus (first | (simp only [EE]; done) | (simp only [EE]; exact rfl) | exact rfl)); (try simp only [SS, Nat.reduceAdd]))
           (with_reducible apply wpList_nil))
        | ((with_reducible apply (wp_region_seq (id := 1)))
           ((with_reducible apply p_fieldAddr); (focus exact rfl); (try simp only [SS, Nat.reduceAdd]))
           ((with_reducible apply p_load1); (focus exact rfl); (focus (first | assumption | ((apply cx); (focus assumption); (focus (repeat (first | exact xr _ | assumption | (apply xt; assumption)))); done) | ((first | (apply cb; assumption) | (apply c0; assumption) | (apply cr; assumption) | (apply cp; assumption)); (focus (repeat (first | exact xr _ | assumption | (apply xt; assumption)))); exact rfl))); (try simp only [SS, Nat.reduceAdd]))
           ((with_reducible apply p_enter); (focus (first | (simp only [EE]; done) | (simp only [EE]; exact rfl) | exact rfl)); first | ((focus (intro w1 hw1; (with_reducible refine (isName18_any _ _ ?_).mono ?_); (focus (first | assumption | exact rfl | omega | ((apply SlR.ext); (focus assumption); (focus (repeat (first | exact xr _ | assumption | (apply xt; assumption)))); done) | ((apply Own.ext); (focus assumption); (focus (repeat (first | exact xr _ | assumption | (apply xt; assumption)))); done) | (simp; done))); rintro e w5 ⟨rfl, hx5⟩; exact ⟨rfl, hx5⟩)); (try simp only [SS, Nat.reduceAdd])))
           ((with_reducible apply p_not); (focus exact rfl); (try simp only [SS, Nat.reduceAdd]))
           ((with_reducible apply p_move); (focus (first | (simp only [EE]; done) | (simp only [EE]; exact rfl) | exact rfl)); (try simp only [SS, Nat.reduceAdd]))
           ((with_reducible apply par_cf); (focus exact rfl); (focus exact rfl); (focus (intro hg1 w1 hx K hK; have hq1 := hg1; (try simp only [decide_eq_true_eq, decide_eq_false_iff_not, Int.not_lt, Int.not_le] at hq1); (try simp only [hg1, GS2] at hK ⊢); ((with_reducible apply r_fieldAddr); (focus exact rfl); exact hK _ (Ext.refl _)))); (try simp only [SS, Nat.reduceAdd]))
           ((with_reducible apply par_cf); (focus exact rfl); (focus exact rfl); (focus (intro hg1 w1 hx K hK; have hq1 := hg1; (try simp only [decide_eq_true_eq, decide_eq_false_iff_not, Int.not_lt, Int.not_le] at hq1); (try simp only [hg1, GS2] at hK ⊢); ((with_reducible apply r_load1); (focus exact rfl); (focus (first | assumption | ((apply cx); (focus assumption); (focus (repeat (first | exact xr _ | assumption | (apply xt; assumption)))); done) | ((first | (apply cb; assumption) | (apply c0; assumption) | (apply cr; assumption) | (apply cp; assumption)); (focus (repeat (first | exact xr _ | assumption | (apply xt; assumption)))); exact rfl))); exact hK _ (Ext.refl _)))); (try simp only [SS, Nat.reduceAdd]))
           ((with_reducible apply par_cf); (focus exact rfl); (focus exact rfl); (focus (intro hg1 w1 hx K hK; have hq1 := hg1; (try simp only [decide_eq_true_eq, decide_eq_false_iff_not, Int.not_lt, Int.not_le] at hq1); (try simp only [hg1, GS2] at hK ⊢); ((with_reducible apply r_enter); (focus (first | (simp only [EE]; done) | (simp only [EE]; exact rfl) | exact rfl)); first | ((with_reducible refine (isName18_any _ _ ?_).mono ?_); (focus (first | assumption | exact rfl | omega | ((apply SlR.ext); (focus assumption); (focus (repeat (first | exact xr _ | assumption | (apply xt; assumption)))); done) | ((apply Own.ext); (focus assumption); (focus (repeat (first | exact xr _ | assumption | (apply xt; assumption)))); done) | (simp; done))); rintro e w10 ⟨rfl, hx10⟩; exact hK _ hx10)))); (try simp only [SS, Nat.reduceAdd]))
           ((with_reducible apply par_cf); (focus exact rfl); (focus exact rfl); (focus (intro hg1 w1 hx K hK; have hq1 := hg1; (try simp only [decide_eq_true_eq, decide_eq_false_iff_not, Int.not_lt, Int.not_le] at hq1); (try simp only [hg1, GS2] at hK ⊢); ((with_reducible apply r_not); (focus exact rfl); exact hK _ (Ext.refl _)))); (try simp only [SS, Nat.reduceAdd]))
           ((with_reducible apply p_or); (focus exact rfl); (focus exact rfl); (try simp only [SS, Nat.reduceAdd]))
           ((with_reducible apply par_nil); intro v1 hv1 _))
        | ((with_reducible apply (wp_region_lit (id := 2)))
           ((with_reducible apply l_assign); (focus (first | (simp only [EE]; done) | (simp only [EE]; exact rfl) | exact rfl)); (try simp only [SS, Nat.reduceAdd]))
           (with_reducible apply wpList_nil))
        | ((with_reducible apply (wp_region_lit (id := 3)))
           ((with_reducible apply l_loadN); (focus exact rfl); (focus (first | assumption | ((first | (apply rb; assumption) | (apply rx; assumption)); (focus (repeat (first | exact xr _ | assumption | (apply xt; assumption))))))); (focus exact rfl); (try simp only [SS, Nat.reduceAdd]))
           ((with_reducible apply l_enter); (focus (first | (simp only [EE]; done) | (simp only [EE]; exact rfl) | exact rfl)); first | ((with_reducible refine (checkCase_any _ _ ?_).mono ?_); (focus (first | assumption | exact rfl | omega | ((apply SlR.ext); (focus assumption); (focus (repeat (first | exact xr _ | assumption | (apply xt; assumption)))); done) | ((apply Own.ext); (focus assumption); (focus (repeat (first | exact xr _ | assumption | (apply xt; assumption)))); done) | (simp; done))); rintro e w14 ⟨rfl, hx14⟩; (try simp only []); (try simp only [SS, Nat.reduceAdd])))
           ((with_reducible apply l_assign); (focus (first | (simp only [EE]; done) | (simp only [EE]; exact rfl) | exact rfl)); (try simp only [SS, Nat.reduceAdd]))
           (with_reducible apply wpList_nil))
        | ((fail_if_success (with_reducible apply no_region)); (fail_if_success (with_reducible apply no_list)); (fail_if_success (with_reducible apply no_oper)); (fail_if_success (with_reducible apply no_par)); (fail_if_success (with_reducible apply no_loop)); go_step))
  all_goals
    go_ret
    refine ⟨ret_int ?_, (by (focus (repeat (first | exact xr _ | assumption | (apply xt; assumption)))))⟩
    simp_all [caseFaultN]
theorem Applies_any (a : Agr) (c : Cas) (w : World) (ha : a.Ok) (hc : c.Ok) :
    Calls Tryd.prog 20 #[a.v, c.v] w fun e w' => e = .returned (.tuple #[.bool (AppliesN a c).1, .int .i64 (AppliesN a c).2]) ∧ Ext w w' := by
  go_enter Tryd.func20, Tryd.ntmps20
  repeat' (
      first
        | ((with_reducible apply wp_seq_k); intro K hK)
        | (simp only [Exit.then, Exit.inBlock, ↓reduceIte, Nat.reduceEqDiff])
        | with_reducible apply wp_block
        | with_reducible apply wp_skip
        | with_reducible apply wp_exit
        | ((with_reducible apply wp_cond_true); (focus exact rfl))
        | ((with_reducible apply wp_cond_false); (focus exact rfl))
        | (((with_reducible apply wp_cond_split); (focus exact rfl)) <;> intro hb <;> (try simp only [bne_iff_ne, ne_eq, bne_eq_false_iff_eq, beq_iff_eq, beq_eq_false_iff_ne, decide_eq_true_eq, decide_eq_false_iff_not, Bool.not_eq_true', Bool.not_eq_false', Bool.and_eq_true, Bool.or_eq_true, Bool.and_eq_false_iff, Bool.or_eq_false_iff, Int.not_lt, Int.not_le, Bool.not_eq_true, Bool.not_eq_false] at hb) <;> (try (have hbl := And.left hb; have hbr := And.right hb)) <;> (try (have hbll := And.left hbl; have hblr := And.right hbl)) <;> (try first | contradiction | exact (bff hb (by assumption)).elim | exact (bft hb (by assumption)).elim | (exfalso; omega)))
        | ((with_reducible apply (wp_region_lit (id := 0)))
           ((with_reducible apply l_boxN); (focus exact rfl); intro g2 w2 hb2 hx2 hg2; (try simp only [SS, Nat.reduceAdd]))
           ((with_reducible apply l_boxN); (focus exact rfl); intro g3 w3 hb3 hx3 hg3; (try simp only [SS, Nat.reduceAdd]))
           ((with_reducible apply l_assign); (focus (first | (simp only [EE]; done) | (simp only [EE]; exact rfl) | exact rfl)); (try simp only [SS, Nat.reduceAdd]))
           ((with_reducible apply l_assign); (focus (first | (simp only [EE]; done) | (simp only [EE]; exact rfl) | exact rfl)); (try simp only [SS, Nat.reduceAdd]))
           (with_reducible apply wpList_nil))
        | ((with_reducible apply (wp_region_lit (id := 1)))
           ((with_reducible apply l_loadN); (focus exact rfl); (focus (first | assumption | ((first | (apply rb; assumption) | (apply rx; assumption)); (focus (repeat (first | exact xr _ | assumption | (apply xt; assumption))))))); (focus exact rfl); (try simp only [SS, Nat.reduceAdd]))
           ((with_reducible apply l_enter); (focus (first | (simp only [EE]; done) | (simp only [EE]; exact rfl) | exact rfl)); first | ((with_reducible refine (ownFaultA _ _ ?_).mono ?_); (focus (first | assumption | exact rfl | omega | ((apply SlR.ext); (focus assumption); (focus (repeat (first | exact xr _ | assumption | (apply xt; assumption)))); done) | ((apply Own.ext); (focus assumption); (focus (repeat (first | exact xr _ | assumption | (apply xt; assumption)))); done) | (simp; done))); rintro e w9 ⟨rfl, hx9⟩; (try simp only []); (try simp only [SS, Nat.reduceAdd])) | ((with_reducible refine (ownFault_any _ _ _ _ _ _ _ _ _ _ ?_ ?_).mono ?_); (focus (first | assumption | exact rfl | omega | ((apply SlR.ext); (focus assumption); (focus (repeat (first | exact xr _ | assumption | (apply xt; assumption)))); done) | ((apply Own.ext); (focus assumption); (focus (repeat (first | exact xr _ | assumption | (apply xt; assumption)))); done) | (simp; done))); (focus (first | assumption | exact rfl | omega | ((apply SlR.ext); (focus assumption); (focus (repeat (first | exact xr _ | assumption | (apply xt; assumption)))); done) | ((apply Own.ext); (focus assumption); (focus (repeat (first | exact xr _ | assumption | (apply xt; assumption)))); done) | (simp; done))); rintro e w9 ⟨rfl, hx9⟩; (try simp only []); (try simp only [SS, Nat.reduceAdd])))
           ((with_reducible apply l_assign); (focus (first | (simp only [EE]; done) | (simp only [EE]; exact rfl) | exact rfl)); (try simp only [SS, Nat.reduceAdd]))
           (with_reducible apply wpList_nil))
        | ((with_reducible apply (wp_region_lit (id := 2)))
           ((with_reducible apply l_move); (focus (first | (simp only [EE]; done) | (simp only [EE]; exact rfl) | exact rfl)); (try simp only [SS, Nat.reduceAdd]))
           ((with_reducible apply l_neq); (focus exact rfl); (focus exact rfl); (try simp only [SS, Nat.reduceAdd]))
           (with_reducible apply wpList_nil))
        | ((with_reducible apply (wp_region_lit (id := 3)))
           ((with_reducible apply l_move); (focus (first | (simp only [EE]; done) | (simp only [EE]; exact rfl) | exact rfl)); (try simp only [SS, Nat.reduceAdd]))
           ((with_reducible apply l_assign); (focus (first | (simp only [EE]; done) | (simp only [EE]; exact rfl) | exact rfl)); (try simp only [SS, Nat.reduceAdd]))
           ((with_reducible apply l_assign); (focus (first | (simp only [EE]; done) | (simp only [EE]; exact rfl) | exact rfl)); (try simp only [SS, Nat.reduceAdd]))
           (with_reducible apply wpList_nil))
        | ((with_reducible apply (wp_region_lit (id := 4)))
           ((with_reducible apply l_loadN); (focus exact rfl); (focus (first | assumption | ((first | (apply rb; assumption) | (apply rx; assumption)); (focus (repeat (first | exact xr _ | assumption | (apply xt; assumption))))))); (focus exact rfl); (try simp only [SS, Nat.reduceAdd]))
           ((with_reducible apply l_enter); (focus (first | (simp only [EE]; done) | (simp only [EE]; exact rfl) | exact rfl)); first | ((with_reducible refine (caseFault_any _ _ ?_).mono ?_); (focus (first | assumption | exact rfl | omega | ((apply SlR.ext); (focus assumption); (focus (repeat (first | exact xr _ | assumption | (apply xt; assumption)))); done) | ((apply Own.ext); (focus assumption); (focus (repeat (first | exact xr _ | assumption | (apply xt; assumption)))); done) | (simp; done))); rintro e w14 ⟨rfl, hx14⟩; (try simp only []); (try simp only [SS, Nat.reduceAdd])))
           ((with_reducible apply l_assign); (focus (first | (simp only [EE]; done) | (simp only [EE]; exact rfl) | exact rfl)); (try simp only [SS, Nat.reduceAdd]))
           (with_reducible apply wpList_nil))
        | ((with_reducible apply (wp_region_lit (id := 5)))
           ((with_reducible apply l_move); (focus (first | (simp only [EE]; done) | (simp only [EE]; exact rfl) | exact rfl)); (try simp only [SS, Nat.reduceAdd]))
           ((with_reducible apply l_neq); (focus exact rfl); (focus exact rfl); (try simp only [SS, Nat.reduceAdd]))
           (with_reducible apply wpList_nil))
        | ((with_reducible apply (wp_region_lit (id := 6)))
           ((with_reducible apply l_move); (focus (first | (simp only [EE]; done) | (simp only [EE]; exact rfl) | exact rfl)); (try simp only [SS, Nat.reduceAdd]))
           ((with_reducible apply l_assign); (focus (first | (simp only [EE]; done) | (simp only [EE]; exact rfl) | exact rfl)); (try simp only [SS, Nat.reduceAdd]))
           ((with_reducible apply l_assign); (focus (first | (simp only [EE]; done) | (simp only [EE]; exact rfl) | exact rfl)); (try simp only [SS, Nat.reduceAdd]))
           (with_reducible apply wpList_nil))
        | ((with_reducible apply (wp_region_lit (id := 7)))
           ((with_reducible apply l_loadN); (focus exact rfl); (focus (first | assumption | ((first | (apply rb; assumption) | (apply rx; assumption)); (focus (repeat (first | exact xr _ | assumption | (apply xt; assumption))))))); (focus exact rfl); (try simp only [SS, Nat.reduceAdd]))
           ((with_reducible apply l_loadN); (focus exact rfl); (focus (first | assumption | ((first | (apply rb; assumption) | (apply rx; assumption)); (focus (repeat (first | exact xr _ | assumption | (apply xt; assumption))))))); (focus exact rfl); (try simp only [SS, Nat.reduceAdd]))
           ((with_reducible apply l_enter); (focus (first | (simp only [EE]; done) | (simp only [EE]; exact rfl) | exact rfl)); first | ((with_reducible refine (applies_any _ _ _).mono ?_);  rintro e w20 ⟨rfl, hx20⟩; (try simp only []); (try simp only [SS, Nat.reduceAdd])))
           ((with_reducible apply l_assign); (focus (first | (simp only [EE]; done) | (simp only [EE]; exact rfl) | exact rfl)); (try simp only [SS, Nat.reduceAdd]))
           ((with_reducible apply l_assign); (focus (first | (simp only [EE]; done) | (simp only [EE]; exact rfl) | exact rfl)); (try simp only [SS, Nat.reduceAdd]))
           (with_reducible apply wpList_nil))
        | ((fail_if_success (with_reducible apply no_region)); (fail_if_success (with_reducible apply no_list)); (fail_if_success (with_reducible apply no_oper)); (fail_if_success (with_reducible apply no_par)); (fail_if_success (with_reducible apply no_loop)); go_step))
  all_goals
    go_ret2
    refine ⟨?_, (by (focus (repeat (first | exact xr _ | assumption | (apply xt; assumption)))))⟩
    simp_all [AppliesN]
theorem Applies8_any (a : Agr) (c : Cas) (w : World) (ha : a.Ok) (hc : c.Ok) :
    Calls Tryd.prog 21 #[a.v, c.v] w fun e w' => e = .returned (.tuple #[.bool (AppliesN a c).1, .int .i64 (AppliesN a c).2]) ∧ Ext w w' := by
  go_enter Tryd.func21, Tryd.ntmps21
  repeat' (
      first
        | ((with_reducible apply wp_seq_k); intro K hK)
        | (simp only [Exit.then, Exit.inBlock, ↓reduceIte, Nat.reduceEqDiff])
        | with_reducible apply wp_block
        | with_reducible apply wp_skip
        | with_reducible apply wp_exit
        | ((with_reducible apply wp_cond_true); (focus exact rfl))
        | ((with_reducible apply wp_cond_false); (focus exact rfl))
        | (((with_reducible apply wp_cond_split); (focus exact rfl)) <;> intro hb <;> (try simp only [bne_iff_ne, ne_eq, bne_eq_false_iff_eq, beq_iff_eq, beq_eq_false_iff_ne, decide_eq_true_eq, decide_eq_false_iff_not, Bool.not_eq_true', Bool.not_eq_false', Bool.and_eq_true, Bool.or_eq_true, Bool.and_eq_false_iff, Bool.or_eq_false_iff, Int.not_lt, Int.not_le, Bool.not_eq_true, Bool.not_eq_false] at hb) <;> (try (have hbl := And.left hb; have hbr := And.right hb)) <;> (try (have hbll := And.left hbl; have hblr := And.right hbl)) <;> (try first | contradiction | exact (bff hb (by assumption)).elim | exact (bft hb (by assumption)).elim | (exfalso; omega)))
        | ((with_reducible apply (wp_region_lit (id := 0)))
           ((with_reducible apply l_boxN); (focus exact rfl); intro g2 w2 hb2 hx2 hg2; (try simp only [SS, Nat.reduceAdd]))
           ((with_reducible apply l_boxN); (focus exact rfl); intro g3 w3 hb3 hx3 hg3; (try simp only [SS, Nat.reduceAdd]))
           ((with_reducible apply l_assign); (focus (first | (simp only [EE]; done) | (simp only [EE]; exact rfl) | exact rfl)); (try simp only [SS, Nat.reduceAdd]))
           ((with_reducible apply l_assign); (focus (first | (simp only [EE]; done) | (simp only [EE]; exact rfl) | exact rfl)); (try simp only [SS, Nat.reduceAdd]))
           (with_reducible apply wpList_nil))
        | ((with_reducible apply (wp_region_lit (id := 1)))
           ((with_reducible apply l_loadN); (focus exact rfl); (focus (first | assumption | ((first | (apply rb; assumption) | (apply rx; assumption)); (focus (repeat (first | exact xr _ | assumption | (apply xt; assumption))))))); (focus exact rfl); (try simp only [SS, Nat.reduceAdd]))
           ((with_reducible apply l_enter); (focus (first | (simp only [EE]; done) | (simp only [EE]; exact rfl) | exact rfl)); first | ((with_reducible refine (checkAgreementA _ _ ?_).mono ?_); (focus (first | assumption | exact rfl | omega | ((apply SlR.ext); (focus assumption); (focus (repeat (first | exact xr _ | assumption | (apply xt; assumption)))); done) | ((apply Own.ext); (focus assumption); (focus (repeat (first | exact xr _ | assumption | (apply xt; assumption)))); done) | (simp; done))); rintro e w9 ⟨rfl, hx9⟩; (try simp only []); (try simp only [SS, Nat.reduceAdd])) | ((with_reducible refine (checkAgreement_any _ _ _ _ _ _ _ _ _ _ ?_ ?_).mono ?_); (focus (first | assumption | exact rfl | omega | ((apply SlR.ext); (focus assumption); (focus (repeat (first | exact xr _ | assumption | (apply xt; assumption)))); done) | ((apply Own.ext); (focus assumption); (focus (repeat (first | exact xr _ | assumption | (apply xt; assumption)))); done) | (simp; done))); (focus (first | assumption | exact rfl | omega | ((apply SlR.ext); (focus assumption); (focus (repeat (first | exact xr _ | assumption | (apply xt; assumption)))); done) | ((apply Own.ext); (focus assumption); (focus (repeat (first | exact xr _ | assumption | (apply xt; assumption)))); done) | (simp; done))); rintro e w9 ⟨rfl, hx9⟩; (try simp only []); (try simp only [SS, Nat.reduceAdd])))
           ((with_reducible apply l_assign); (focus (first | (simp only [EE]; done) | (simp only [EE]; exact rfl) | exact rfl)); (try simp only [SS, Nat.reduceAdd]))
           (with_reducible apply wpList_nil))
        | ((with_reducible apply (wp_region_lit (id := 2)))
           ((with_reducible apply l_move); (focus (first | (simp only [EE]; done) | (simp only [EE]; exact rfl) | exact rfl)); (try simp only [SS, Nat.reduceAdd]))
           ((with_reducible apply l_neq); (focus exact rfl); (focus exact rfl); (try simp only [SS, Nat.reduceAdd]))
           (with_reducible apply wpList_nil))
        | ((with_reducible apply (wp_region_lit (id := 3)))
           ((with_reducible apply l_move); (focus (first | (simp only [EE]; done) | (simp only [EE]; exact rfl) | exact rfl)); (try simp only [SS, Nat.reduceAdd]))
           ((with_reducible apply l_assign); (focus (first | (simp only [EE]; done) | (simp only [EE]; exact rfl) | exact rfl)); (try simp only [SS, Nat.reduceAdd]))
           ((with_reducible apply l_assign); (focus (first | (simp only [EE]; done) | (simp only [EE]; exact rfl) | exact rfl)); (try simp only [SS, Nat.reduceAdd]))
           (with_reducible apply wpList_nil))
        | ((with_reducible apply (wp_region_lit (id := 4)))
           ((with_reducible apply l_loadN); (focus exact rfl); (focus (first | assumption | ((first | (apply rb; assumption) | (apply rx; assumption)); (focus (repeat (first | exact xr _ | assumption | (apply xt; assumption))))))); (focus exact rfl); (try simp only [SS, Nat.reduceAdd]))
           ((with_reducible apply l_enter); (focus (first | (simp only [EE]; done) | (simp only [EE]; exact rfl) | exact rfl)); first | ((with_reducible refine (checkWhole_any _ _ ?_).mono ?_); (focus (first | assumption | exact rfl | omega | ((apply SlR.ext); (focus assumption); (focus (repeat (first | exact xr _ | assumption | (apply xt; assumption)))); done) | ((apply Own.ext); (focus assumption); (focus (repeat (first | exact xr _ | assumption | (apply xt; assumption)))); done) | (simp; done))); rintro e w14 ⟨rfl, hx14⟩; (try simp only []); (try simp only [SS, Nat.reduceAdd])))
           ((with_reducible apply l_assign); (focus (first | (simp only [EE]; done) | (simp only [EE]; exact rfl) | exact rfl)); (try simp only [SS, Nat.reduceAdd]))
           (with_reducible apply wpList_nil))
        | ((with_reducible apply (wp_region_lit (id := 5)))
           ((with_reducible apply l_move); (focus (first | (simp only [EE]; done) | (simp only [EE]; exact rfl) | exact rfl)); (try simp only [SS, Nat.reduceAdd]))
           ((with_reducible apply l_neq); (focus exact rfl); (focus exact rfl); (try simp only [SS, Nat.reduceAdd]))
           (with_reducible apply wpList_nil))
        | ((with_reducible apply (wp_region_lit (id := 6)))
           ((with_reducible apply l_move); (focus (first | (simp only [EE]; done) | (simp only [EE]; exact rfl) | exact rfl)); (try simp only [SS, Nat.reduceAdd]))
           ((with_reducible apply l_assign); (focus (first | (simp only [EE]; done) | (simp only [EE]; exact rfl) | exact rfl)); (try simp only [SS, Nat.reduceAdd]))
           ((with_reducible apply l_assign); (focus (first | (simp only [EE]; done) | (simp only [EE]; exact rfl) | exact rfl)); (try simp only [SS, Nat.reduceAdd]))
           (with_reducible apply wpList_nil))
        | ((with_reducible apply (wp_region_lit (id := 7)))
           ((with_reducible apply l_loadN); (focus exact rfl); (focus (first | assumption | ((first | (apply rb; assumption) | (apply rx; assumption)); (focus (repeat (first | exact xr _ | assumption | (apply xt; assumption))))))); (focus exact rfl); (try simp only [SS, Nat.reduceAdd]))
           ((with_reducible apply l_loadN); (focus exact rfl); (focus (first | assumption | ((first | (apply rb; assumption) | (apply rx; assumption)); (focus (repeat (first | exact xr _ | assumption | (apply xt; assumption))))))); (focus exact rfl); (try simp only [SS, Nat.reduceAdd]))
           ((with_reducible apply l_enter); (focus (first | (simp only [EE]; done) | (simp only [EE]; exact rfl) | exact rfl)); first | ((with_reducible refine (applies8_any _ _ _).mono ?_);  rintro e w20 ⟨rfl, hx20⟩; (try simp only []); (try simp only [SS, Nat.reduceAdd])))
           ((with_reducible apply l_assign); (focus (first | (simp only [EE]; done) | (simp only [EE]; exact rfl) | exact rfl)); (try simp only [SS, Nat.reduceAdd]))
           ((with_reducible apply l_assign); (focus (first | (simp only [EE]; done) | (simp only [EE]; exact rfl) | exact rfl)); (try simp only [SS, Nat.reduceAdd]))
           (with_reducible apply wpList_nil))
        | ((fail_if_success (with_reducible apply no_region)); (fail_if_success (with_reducible apply no_list)); (fail_if_success (with_reducible apply no_oper)); (fail_if_success (with_reducible apply no_par)); (fail_if_success (with_reducible apply no_loop)); go_step))
  all_goals
    go_ret2
    refine ⟨?_, (by (focus (repeat (first | exact xr _ | assumption | (apply xt; assumption)))))⟩
    simp_all [AppliesN]
theorem law3_any (a b : Agr) (c : Cas) (w : World) (ha : a.Ok) (hb : b.Ok) (hc : c.Ok) :
    Calls Tryd.prog 5 #[a.v, b.v, c.v] w fun e w' => e = .returned (.bool true) ∧ Ext w w' := by
  go_enter Tryd.func5, Tryd.ntmps5
  repeat' (
      first
        | ((with_reducible apply wp_seq_k); intro K hK)
        | (simp only [Exit.then, Exit.inBlock, ↓reduceIte, Nat.reduceEqDiff])
        | with_reducible apply wp_block
        | with_reducible apply wp_skip
        | with_reducible apply wp_exit
        | ((with_reducible apply wp_cond_true); (focus exact rfl))
        | ((with_reducible apply wp_cond_false); (focus exact rfl))
        | (((with_reducible apply wp_cond_split); (focus exact rfl)) <;> intro hb <;> (try simp only [bne_iff_ne, ne_eq, bne_eq_false_iff_eq, beq_iff_eq, beq_eq_false_iff_ne, decide_eq_true_eq, decide_eq_false_iff_not, Bool.not_eq_true', Bool.not_eq_false', Bool.and_eq_true, Bool.or_eq_true, Bool.and_eq_false_iff, Bool.or_eq_false_iff, Int.not_lt, Int.not_le, Bool.not_eq_true, Bool.not_eq_false] at hb) <;> (try (have hbl := And.left hb; have hbr := And.right hb)) <;> (try (have hbll := And.left hbl; have hblr := And.right hbl)) <;> (try first | contradiction | exact (bff hb (by assumption)).elim | exact (bft hb (by assumption)).elim | (exfalso; omega)))
        | ((with_reducible apply (wp_region_lit (id := 0)))
           ((with_reducible apply l_boxN); (focus exact rfl); intro g3 w3 hb3 hx3 hg3; (try simp only [SS, Nat.reduceAdd]))
           ((with_reducible apply l_boxN); (focus exact rfl); intro g4 w4 hb4 hx4 hg4; (try simp only [SS, Nat.reduceAdd]))
           ((with_reducible apply l_boxN); (focus exact rfl); intro g5 w5 hb5 hx5 hg5; (try simp only [SS, Nat.reduceAdd]))
           ((with_reducible apply l_assign); (focus (first | (simp only [EE]; done) | (simp only [EE]; exact rfl) | exact rfl)); (try simp only [SS, Nat.reduceAdd]))
           (with_reducible apply wpList_nil))
        | ((with_reducible apply (wp_region_lit (id := 1)))
           ((with_reducible apply l_loadN); (focus exact rfl); (focus (first | assumption | ((first | (apply rb; assumption) | (apply rx; assumption)); (focus (repeat (first | exact xr _ | assumption | (apply xt; assumption))))))); (focus exact rfl); (try simp only [SS, Nat.reduceAdd]))
           ((with_reducible apply l_loadN); (focus exact rfl); (focus (first | assumption | ((first | (apply rb; assumption) | (apply rx; assumption)); (focus (repeat (first | exact xr _ | assumption | (apply xt; assumption))))))); (focus exact rfl); (try simp only [SS, Nat.reduceAdd]))
           ((with_reducible apply l_enter); (focus (first | (simp only [EE]; done) | (simp only [EE]; exact rfl) | exact rfl)); first | ((with_reducible refine (Applies_any _ _ _ ?_ ?_).mono ?_); (focus (first | assumption | exact rfl | omega | ((apply SlR.ext); (focus assumption); (focus (repeat (first | exact xr _ | assumption | (apply xt; assumption)))); done) | ((apply Own.ext); (focus assumption); (focus (repeat (first | exact xr _ | assumption | (apply xt; assumption)))); done) | (simp; done))); (focus (first | assumption | exact rfl | omega | ((apply SlR.ext); (focus assumption); (focus (repeat (first | exact xr _ | assumption | (apply xt; assumption)))); done) | ((apply Own.ext); (focus assumption); (focus (repeat (first | exact xr _ | assumption | (apply xt; assumption)))); done) | (simp; done))); rintro e w16 ⟨rfl, hx16⟩; (try simp only []); (try simp only [SS, Nat.reduceAdd])))
           ((with_reducible apply l_move); (focus (first | (simp only [EE]; done) | (simp only [EE]; exact rfl) | exact rfl)); (try simp only [SS, Nat.reduceAdd]))
           ((with_reducible apply l_extract); (focus exact rfl); (focus exact rfl); (try simp only [SS, Nat.reduceAdd]))
           ((with_reducible apply l_extract); (focus exact rfl); (focus exact rfl); (try simp only [SS, Nat.reduceAdd]))
           ((with_reducible apply l_assign); (focus (first | (simp only [EE]; done) | (simp only [EE]; exact rfl) | exact rfl)); (try simp only [SS, Nat.reduceAdd]))
           ((with_reducible apply l_assign); (focus (first | (simp only [EE]; done) | (simp only [EE]; exact rfl) | exact rfl)); (try simp only [SS, Nat.reduceAdd]))
           (with_reducible apply wpList_nil))
        | ((with_reducible apply (wp_region_lit (id := 2)))
           ((with_reducible apply l_loadN); (focus exact rfl); (focus (first | assumption | ((first | (apply rb; assumption) | (apply rx; assumption)); (focus (repeat (first | exact xr _ | assumption | (apply xt; assumption))))))); (focus exact rfl); (try simp only [SS, Nat.reduceAdd]))
           ((with_reducible apply l_loadN); (focus exact rfl); (focus (first | assumption | ((first | (apply rb; assumption) | (apply rx; assumption)); (focus (repeat (first | exact xr _ | assumption | (apply xt; assumption))))))); (focus exact rfl); (try simp only [SS, Nat.reduceAdd]))
           ((with_reducible apply l_enter); (focus (first | (simp only [EE]; done) | (simp only [EE]; exact rfl) | exact rfl)); first | ((with_reducible refine (Applies8_any _ _ _ ?_ ?_).mono ?_); (focus (first | assumption | exact rfl | omega | ((apply SlR.ext); (focus assumption); (focus (repeat (first | exact xr _ | assumption | (apply xt; assumption)))); done) | ((apply Own.ext); (focus assumption); (focus (repeat (first | exact xr _ | assumption | (apply xt; assumption)))); done) | (simp; done))); (focus (first | assumption | exact rfl | omega | ((apply SlR.ext); (focus assumption); (focus (repeat (first | exact xr _ | assumption | (apply xt; assumption)))); done) | ((apply Own.ext); (focus assumption); (focus (repeat (first | exact xr _ | assumption | (apply xt; assumption)))); done) | (simp; done))); rintro e w22 ⟨rfl, hx22⟩; (try simp only []); (try simp only [SS, Nat.reduceAdd])))
           ((with_reducible apply l_move); (focus (first | (simp only [EE]; done) | (simp only [EE]; exact rfl) | exact rfl)); (try simp only [SS, Nat.reduceAdd]))
           ((with_reducible apply l_extract); (focus exact rfl); (focus exact rfl); (try simp only [SS, Nat.reduceAdd]))
           ((with_reducible apply l_extract); (focus exact rfl); (focus exact rfl); (try simp only [SS, Nat.reduceAdd]))
           ((with_reducible apply l_assign); (focus (first | (simp only [EE]; done) | (simp only [EE]; exact rfl) | exact rfl)); (try simp only [SS, Nat.reduceAdd]))
           ((with_reducible apply l_assign); (focus (first | (simp only [EE]; done) | (simp only [EE]; exact rfl) | exact rfl)); (try simp only [SS, Nat.reduceAdd]))
           (with_reducible apply wpList_nil))
        | ((with_reducible apply (wp_region_seq (id := 3)))
           ((with_reducible apply p_move); (focus (first | (simp only [EE]; done) | (simp only [EE]; exact rfl) | exact rfl)); (try simp only [SS, Nat.reduceAdd]))
           ((with_reducible apply p_move); (focus (first | (simp only [EE]; done) | (simp only [EE]; exact rfl) | exact rfl)); (try simp only [SS, Nat.reduceAdd]))
           ((with_reducible apply p_neq); (focus exact rfl); (focus exact rfl); (try simp only [SS, Nat.reduceAdd]))
           ((with_reducible apply p_move); (focus (first | (simp only [EE]; done) | (simp only [EE]; exact rfl) | exact rfl)); (try simp only [SS, Nat.reduceAdd]))
           ((with_reducible apply par_cf); (focus exact rfl); (focus exact rfl); (focus (intro hg1 w1 hx K hK; have hq1 := hg1; (try simp only [decide_eq_true_eq, decide_eq_false_iff_not, Int.not_lt, Int.not_le] at hq1); (try simp only [hg1, GS2] at hK ⊢); ((with_reducible apply r_move); (focus (first | (simp only [EE]; done) | (simp only [EE]; exact rfl) | exact rfl)); exact hK _ (Ext.refl _)))); (try simp only [SS, Nat.reduceAdd]))
           ((with_reducible apply par_cf); (focus exact rfl); (focus exact rfl); (focus (intro hg1 w1 hx K hK; have hq1 := hg1; (try simp only [decide_eq_true_eq, decide_eq_false_iff_not, Int.not_lt, Int.not_le] at hq1); (try simp only [hg1, GS2] at hK ⊢); ((with_reducible apply r_move); (focus (first | (simp only [EE]; done) | (simp only [EE]; exact rfl) | exact rfl)); exact hK _ (Ext.refl _)))); (try simp only [SS, Nat.reduceAdd]))
           ((with_reducible apply par_cf); (focus exact rfl); (focus exact rfl); (focus (intro hg1 w1 hx K hK; have hq1 := hg1; (try simp only [decide_eq_true_eq, decide_eq_false_iff_not, Int.not_lt, Int.not_le] at hq1); (try simp only [hg1, GS2] at hK ⊢); ((with_reducible apply r_boolNe); (focus exact rfl); (focus exact rfl); exact hK _ (Ext.refl _)))); (try simp only [SS, Nat.reduceAdd]))
           ((with_reducible apply p_or); (focus exact rfl); (focus exact rfl); (try simp only [SS, Nat.reduceAdd]))
           ((with_reducible apply par_nil); intro v3 hv3 _))
        | ((with_reducible apply (wp_region_lit (id := 4)))
           ((with_reducible apply l_assign); (focus (first | (simp only [EE]; done) | (simp only [EE]; exact rfl) | exact rfl)); (try simp only [SS, Nat.reduceAdd]))
           (with_reducible apply wpList_nil))
        | ((with_reducible apply (wp_region_lit (id := 5)))
           ((with_reducible apply l_loadN); (focus exact rfl); (focus (first | assumption | ((first | (apply rb; assumption) | (apply rx; assumption)); (focus (repeat (first | exact xr _ | assumption | (apply xt; assumption))))))); (focus exact rfl); (try simp only [SS, Nat.reduceAdd]))
           ((with_reducible apply l_loadN); (focus exact rfl); (focus (first | assumption | ((first | (apply rb; assumption) | (apply rx; assumption)); (focus (repeat (first | exact xr _ | assumption | (apply xt; assumption))))))); (focus exact rfl); (try simp only [SS, Nat.reduceAdd]))
           ((with_reducible apply l_enter); (focus (first | (simp only [EE]; done) | (simp only [EE]; exact rfl) | exact rfl)); first | ((with_reducible refine (Better_any _ _ _ ?_ ?_).mono ?_); (focus (first | assumption | exact rfl | omega | ((apply SlR.ext); (focus assumption); (focus (repeat (first | exact xr _ | assumption | (apply xt; assumption)))); done) | ((apply Own.ext); (focus assumption); (focus (repeat (first | exact xr _ | assumption | (apply xt; assumption)))); done) | (simp; done))); (focus (first | assumption | exact rfl | omega | ((apply SlR.ext); (focus assumption); (focus (repeat (first | exact xr _ | assumption | (apply xt; assumption)))); done) | ((apply Own.ext); (focus assumption); (focus (repeat (first | exact xr _ | assumption | (apply xt; assumption)))); done) | (simp; done))); rintro e w36 ⟨rfl, hx36⟩; (try simp only []); (try simp only [SS, Nat.reduceAdd])))
           ((with_reducible apply l_move); (focus (first | (simp only [EE]; done) | (simp only [EE]; exact rfl) | exact rfl)); (try simp only [SS, Nat.reduceAdd]))
           ((with_reducible apply l_extract); (focus exact rfl); (focus exact rfl); (try simp only [SS, Nat.reduceAdd]))
           ((with_reducible apply l_extract); (focus exact rfl); (focus exact rfl); (try simp only [SS, Nat.reduceAdd]))
           ((with_reducible apply l_assign); (focus (first | (simp only [EE]; done) | (simp only [EE]; exact rfl) | exact rfl)); (try simp only [SS, Nat.reduceAdd]))
           ((with_reducible apply l_assign); (focus (first | (simp only [EE]; done) | (simp only [EE]; exact rfl) | exact rfl)); (try simp only [SS, Nat.reduceAdd]))
           (with_reducible apply wpList_nil))
        | ((with_reducible apply (wp_region_lit (id := 6)))
           ((with_reducible apply l_loadN); (focus exact rfl); (focus (first | assumption | ((first | (apply rb; assumption) | (apply rx; assumption)); (focus (repeat (first | exact xr _ | assumption | (apply xt; assumption))))))); (focus exact rfl); (try simp only [SS, Nat.reduceAdd]))
           ((with_reducible apply l_loadN); (focus exact rfl); (focus (first | assumption | ((first | (apply rb; assumption) | (apply rx; assumption)); (focus (repeat (first | exact xr _ | assumption | (apply xt; assumption))))))); (focus exact rfl); (try simp only [SS, Nat.reduceAdd]))
           ((with_reducible apply l_enter); (focus (first | (simp only [EE]; done) | (simp only [EE]; exact rfl) | exact rfl)); first | ((with_reducible refine (Better8_any _ _ _ ?_ ?_).mono ?_); (focus (first | assumption | exact rfl | omega | ((apply SlR.ext); (focus assumption); (focus (repeat (first | exact xr _ | assumption | (apply xt; assumption)))); done) | ((apply Own.ext); (focus assumption); (focus (repeat (first | exact xr _ | assumption | (apply xt; assumption)))); done) | (simp; done))); (focus (first | assumption | exact rfl | omega | ((apply SlR.ext); (focus assumption); (focus (repeat (first | exact xr _ | assumption | (apply xt; assumption)))); done) | ((apply Own.ext); (focus assumption); (focus (repeat (first | exact xr _ | assumption | (apply xt; assumption)))); done) | (simp; done))); rintro e w42 ⟨rfl, hx42⟩; (try simp only []); (try simp only [SS, Nat.reduceAdd])))
           ((with_reducible apply l_move); (focus (first | (simp only [EE]; done) | (simp only [EE]; exact rfl) | exact rfl)); (try simp only [SS, Nat.reduceAdd]))
           ((with_reducible apply l_extract); (focus exact rfl); (focus exact rfl); (try simp only [SS, Nat.reduceAdd]))
           ((with_reducible apply l_extract); (focus exact rfl); (focus exact rfl); (try simp only [SS, Nat.reduceAdd]))
           ((with_reducible apply l_assign); (focus (first | (simp only [EE]; done) | (simp only [EE]; exact rfl) | exact rfl)); (try simp only [SS, Nat.reduceAdd]))
           ((with_reducible apply l_assign); (focus (first | (simp only [EE]; done) | (simp only [EE]; exact rfl) | exact rfl)); (try simp only [SS, Nat.reduceAdd]))
           (with_reducible apply wpList_nil))
        | ((with_reducible apply (wp_region_seq (id := 7)))
           ((with_reducible apply p_move); (focus (first | (simp only [EE]; done) | (simp only [EE]; exact rfl) | exact rfl)); (try simp only [SS, Nat.reduceAdd]))
           ((with_reducible apply p_move); (focus (first | (simp only [EE]; done) | (simp only [EE]; exact rfl) | exact rfl)); (try simp only [SS, Nat.reduceAdd]))
           ((with_reducible apply p_eql); (focus exact rfl); (focus exact rfl); (try simp only [SS, Nat.reduceAdd]))
           ((with_reducible apply p_move); (focus (first | (simp only [EE]; done) | (simp only [EE]; exact rfl) | exact rfl)); (try simp only [SS, Nat.reduceAdd]))
           ((with_reducible apply par_ct); (focus exact rfl); (focus exact rfl); (focus (intro hg1 w1 hx K hK; have hq1 := hg1; (try simp only [decide_eq_true_eq, decide_eq_false_iff_not, Int.not_lt, Int.not_le] at hq1); (try simp only [hg1, GS2] at hK ⊢); ((with_reducible apply r_move); (focus (first | (simp only [EE]; done) | (simp only [EE]; exact rfl) | exact rfl)); exact hK _ (Ext.refl _)))); (try simp only [SS, Nat.reduceAdd]))
           ((with_reducible apply par_ct); (focus exact rfl); (focus exact rfl); (focus (intro hg1 w1 hx K hK; have hq1 := hg1; (try simp only [decide_eq_true_eq, decide_eq_false_iff_not, Int.not_lt, Int.not_le] at hq1); (try simp only [hg1, GS2] at hK ⊢); ((with_reducible apply r_move); (focus (first | (simp only [EE]; done) | (simp only [EE]; exact rfl) | exact rfl)); exact hK _ (Ext.refl _)))); (try simp only [SS, Nat.reduceAdd]))
           ((with_reducible apply par_ct); (focus exact rfl); (focus exact rfl); (focus (intro hg1 w1 hx K hK; have hq1 := hg1; (try simp only [decide_eq_true_eq, decide_eq_false_iff_not, Int.not_lt, Int.not_le] at hq1); (try simp only [hg1, GS2] at hK ⊢); ((with_reducible apply r_eql); (focus exact rfl); (focus exact rfl); exact hK _ (Ext.refl _)))); (try simp only [SS, Nat.reduceAdd]))
           ((with_reducible apply p_and); (focus exact rfl); (focus exact rfl); (try simp only [SS, Nat.reduceAdd]))
           ((with_reducible apply p_move); (focus (first | (simp only [EE]; done) | (simp only [EE]; exact rfl) | exact rfl)); (try simp only [SS, Nat.reduceAdd]))
           ((with_reducible apply par_ct); (focus exact rfl); (focus exact rfl); (focus (intro hg1 w1 hx K hK; have hq1 := hg1; (try simp only [decide_eq_true_eq, decide_eq_false_iff_not, Int.not_lt, Int.not_le] at hq1); (try simp only [hg1, GS2] at hK ⊢); ((with_reducible apply r_enter); (focus (first | (simp only [EE]; done) | (simp only [EE]; exact rfl) | exact rfl)); first | ((with_reducible refine (awake_any _).mono ?_);  rintro e w54 ⟨rfl, hx54⟩; exact hK _ hx54)))); (try simp only [SS, Nat.reduceAdd]))
           ((with_reducible apply p_and); (focus exact rfl); (focus exact rfl); (try simp only [SS, Nat.reduceAdd]))
           ((with_reducible apply p_assign); (focus (first | (simp only [EE]; done) | (simp only [EE]; exact rfl) | exact rfl)); (try simp only [SS, Nat.reduceAdd]))
           ((with_reducible apply par_nil); intro v7 hv7 _))
        | ((fail_if_success (with_reducible apply no_region)); (fail_if_success (with_reducible apply no_list)); (fail_if_success (with_reducible apply no_oper)); (fail_if_success (with_reducible apply no_par)); (fail_if_success (with_reducible apply no_loop)); go_step))
  all_goals
    go_ret
    refine ⟨ret_bool ?_, (by (focus (repeat (first | exact xr _ | assumption | (apply xt; assumption)))))⟩
    first
      | rfl
      | (exfalso; simp_all; done)
      | (simp_all; done)
end Go.Proofs.YtdopillligfdiaaDoor
