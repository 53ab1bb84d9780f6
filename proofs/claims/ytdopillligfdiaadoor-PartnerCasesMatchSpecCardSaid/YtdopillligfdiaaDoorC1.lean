/- Contracts: what is wrong with an agreement by itself; the order of agreements; series and the next number. -/
import Derived.Test.YtdopillligfdiaaDoorC0
namespace Go.Proofs.YtdopillligfdiaaDoor
set_option linter.unusedSimpArgs false
set_option linter.unusedVariables false
open Go.RowKit
set_option maxRecDepth 100000
set_option maxHeartbeats 2000000

theorem ownFaultA (a : Agr) (w : World) (ha : a.Ok) :
    Calls Tryd.prog 46 #[a.v] w fun e w' => e = .returned (.int .i64 (ownFaultN a)) ∧ Ext w w' := ownFault_any a.fr a.tgt a.msg a.ver a.first a.last a.test a.reply a.inOrder w ha.msg ha.ver
theorem checkAgreementA (a : Agr) (w : World) (ha : a.Ok) :
    Calls Tryd.prog 58 #[a.v] w fun e w' => e = .returned (.int .i64 (ownFaultN a)) ∧ Ext w w' := checkAgreement_any a.fr a.tgt a.msg a.ver a.first a.last a.test a.reply a.inOrder w ha.msg ha.ver
theorem better_go (a b : Agr) (w : World) (hf : ownFaultN a = 0 ∧ ownFaultN b = 0) :
    Calls Tryd.prog 47 #[a.v, b.v] w fun e w' => e = .returned (.int .i64 (betterN a b)) ∧ Ext w w' := better_any a b w (fit_of_own hf.1).1 (fit_of_own hf.2).1
theorem better8_go (a b : Agr) (w : World) (hf : ownFaultN a = 0 ∧ ownFaultN b = 0) :
    Calls Tryd.prog 61 #[a.v, b.v] w fun e w' => e = .returned (.int .i64 (betterN a b)) ∧ Ext w w' := by
  have h := better8_any a b w (fit_of_own hf.1).1 (fit_of_own hf.2).1
  rw [better8_eq a b (fit_of_own hf.1).2 (fit_of_own hf.2).2] at h
  exact h
theorem Better8_any (a b : Agr) (w : World) (ha : a.Ok) (hb : b.Ok) :
    Calls Tryd.prog 22 #[a.v, b.v] w fun e w' => e = .returned (.tuple #[.int .i64 (BetterN a b).1, .int .i64 (BetterN a b).2]) ∧ Ext w w' := by
  go_enter Tryd.func22, Tryd.ntmps22
  repeat' (
      first
        | ((with_reducible apply wp_seq_k); intro K hK)
        | (simp only [Exit.then, Exit.inBlock, ↓reduceIte, Nat.reduceEqDiff])
        | with_reducible apply wp_block
        | with_reducible apply wp_skip
        | with_reducible apply wp_exit
        | ((with_reducible apply wp_cond_true); (focus exact rfl))
        | ((with_reducible apply wp_cond_false); (focus exact rfl))
        | (((with_reducible apply wp_cond_split); (focus exact rfl)) <;> intro hb <;> (try simp only [bne_iff_ne, ne_eq, bne_eq_false_iff_eq, beq_iff_eq, beq_eq_false_iff_ne, decide_eq_true_eq, decide_eq_false_iff_not, Bool.not_eq_true', Bool.not_eq_false', Bool.and_eq_true, Bool.or_eq_true, Bool.and_eq_false_iff, Bool.or_eq_false_iff, Int.not_lt, Int.not_le, Bool.not_eq_true, Bool.not_eq_false] at hb) <;> (try (have hbl := And.left hb; have hbr := And.right hb)) <;> (try (have hbll := And.left hbl; have hblr := And.right hbl)) <;> (try first | contradiction | exact (bff hb (by assumption)).elim | exact (bft hb (by assumption)).elim | (exfalso; omega)))
        | ((with_reducible apply (wp_region_lit (id := 0)))
           ((with_reducible apply l_boxN); (focus exact rfl); intro g2 w2 hb2 hx2 hg2; (try simp only [SS, Nat.reduceAdd]))
           ((with_reducible apply l_boxN); (focus exact rfl); intro g3 w3 hb3 hx3 hg3; (try simp only [SS, Nat.reduceAdd]))
           ((with_reducible apply l_assign); (focus (first | (simp only [EE]; done) | (simp only [EE]; exact rfl) | exact rfl)); (try simp only [SS, Nat.reduceAdd]))
           ((with_reducible apply l_assign); (focus (first | (simp only [EE]; done) | (simp only [EE]; exact rfl) | exact rfl)); (try simp only [SS, Nat.reduceAdd]))
           (with_reducible apply wpList_nil))
        | ((with_reducible apply (wp_region_lit (id := 1)))
           ((with_reducible apply l_loadN); (focus exact rfl); (focus (first | assumption | ((first | (apply rb; assumption) | (apply rx; assumption)); (focus (repeat (first | exact xr _ | assumption | (apply xt; assumption))))))); (focus exact rfl); (try simp only [SS, Nat.reduceAdd]))
           ((with_reducible apply l_enter); (focus (first | (simp only [EE]; done) | (simp only [EE]; exact rfl) | exact rfl)); first | ((with_reducible refine (checkAgreementA _ _ ?_).mono ?_); (focus (first | assumption | exact rfl | omega | ((apply SlR.ext); (focus assumption); (focus (repeat (first | exact xr _ | assumption | (apply xt; assumption)))); done) | ((apply Own.ext); (focus assumption); (focus (repeat (first | exact xr _ | assumption | (apply xt; assumption)))); done) | (simp; done))); rintro e w9 ⟨rfl, hx9⟩; (try simp only []); (try simp only [SS, Nat.reduceAdd])) | ((with_reducible refine (checkAgreement_any _ _ _ _ _ _ _ _ _ _ ?_ ?_).mono ?_); (focus (first | assumption | exact rfl | omega | ((apply SlR.ext); (focus assumption); (focus (repeat (first | exact xr _ | assumption | (apply xt; assumption)))); done) | ((apply Own.ext); (focus assumption); (focus (repeat (first | exact xr _ | assumption | (apply xt; assumption)))); done) | (simp; done))); (focus (first | assumption | exact rfl | omega | ((apply SlR.ext); (focus assumption); (focus (repeat (first | exact xr _ | assumption | (apply xt; assumption)))); done) | ((apply Own.ext); (focus assumption); (focus (repeat (first | exact xr _ | assumption | (apply xt; assumption)))); done) | (simp; done))); rintro e w9 ⟨rfl, hx9⟩; (try simp only []); (try simp only [SS, Nat.reduceAdd])))
           ((with_reducible apply l_assign); (focus (first | (simp only [EE]; done) | (simp only [EE]; exact rfl) | exact rfl)); (try simp only [SS, Nat.reduceAdd]))
           (with_reducible apply wpList_nil))
        | ((with_reducible apply (wp_region_lit (id := 2)))
           ((with_reducible apply l_move); (focus (first | (simp only [EE]; done) | (simp only [EE]; exact rfl) | exact rfl)); (try simp only [SS, Nat.reduceAdd]))
           ((with_reducible apply l_neq); (focus exact rfl); (focus exact rfl); (try simp only [SS, Nat.reduceAdd]))
           (with_reducible apply wpList_nil))
        | ((with_reducible apply (wp_region_lit (id := 3)))
           ((with_reducible apply l_move); (focus (first | (simp only [EE]; done) | (simp only [EE]; exact rfl) | exact rfl)); (try simp only [SS, Nat.reduceAdd]))
           ((with_reducible apply l_assign); (focus (first | (simp only [EE]; done) | (simp only [EE]; exact rfl) | exact rfl)); (try simp only [SS, Nat.reduceAdd]))
           ((with_reducible apply l_assign); (focus (first | (simp only [EE]; done) | (simp only [EE]; exact rfl) | exact rfl)); (try simp only [SS, Nat.reduceAdd]))
           (with_reducible apply wpList_nil))
        | ((with_reducible apply (wp_region_lit (id := 4)))
           ((with_reducible apply l_loadN); (focus exact rfl); (focus (first | assumption | ((first | (apply rb; assumption) | (apply rx; assumption)); (focus (repeat (first | exact xr _ | assumption | (apply xt; assumption))))))); (focus exact rfl); (try simp only [SS, Nat.reduceAdd]))
           ((with_reducible apply l_enter); (focus (first | (simp only [EE]; done) | (simp only [EE]; exact rfl) | exact rfl)); first | ((with_reducible refine (checkAgreementA _ _ ?_).mono ?_); (focus (first | assumption | exact rfl | omega | ((apply SlR.ext); (focus assumption); (focus (repeat (first | exact xr _ | assumption | (apply xt; assumption)))); done) | ((apply Own.ext); (focus assumption); (focus (repeat (first | exact xr _ | assumption | (apply xt; assumption)))); done) | (simp; done))); rintro e w14 ⟨rfl, hx14⟩; (try simp only []); (try simp only [SS, Nat.reduceAdd])) | ((with_reducible refine (checkAgreement_any _ _ _ _ _ _ _ _ _ _ ?_ ?_).mono ?_); (focus (first | assumption | exact rfl | omega | ((apply SlR.ext); (focus assumption); (focus (repeat (first | exact xr _ | assumption | (apply xt; assumption)))); done) | ((apply Own.ext); (focus assumption); (focus (repeat (first | exact xr _ | assumption | (apply xt; assumption)))); done) | (simp; done))); (focus (first | assumption | exact rfl | omega | ((apply SlR.ext); (focus assumption); (focus (repeat (first | exact xr _ | assumption | (apply xt; assumption)))); done) | ((apply Own.ext); (focus assumption); (focus (repeat (first | exact xr _ | assumption | (apply xt; assumption)))); done) | (simp; done))); rintro e w14 ⟨rfl, hx14⟩; (try simp only []); (try simp only [SS, Nat.reduceAdd])))
           ((with_reducible apply l_assign); (focus (first | (simp only [EE]; done) | (simp only [EE]; exact rfl) | exact rfl)); (try simp only [SS, Nat.reduceAdd]))
           (with_reducible apply wpList_nil))
        | ((with_reducible apply (wp_region_lit (id := 5)))
           ((with_reducible apply l_move); (focus (first | (simp only [EE]; done) | (simp only [EE]; exact rfl) | exact rfl)); (try simp only [SS, Nat.reduceAdd]))
           ((with_reducible apply l_neq); (focus exact rfl); (focus exact rfl); (try simp only [SS, Nat.reduceAdd]))
           (with_reducible apply wpList_nil))
        | ((with_reducible apply (wp_region_lit (id := 6)))
           ((with_reducible apply l_move); (focus (first | (simp only [EE]; done) | (simp only [EE]; exact rfl) | exact rfl)); (try simp only [SS, Nat.reduceAdd]))
           ((with_reducible apply l_assign); (focus (first | (simp only [EE]; done) | (simp only [EE]; exact rfl) | exact rfl)); (try simp only [SS, Nat.reduceAdd]))
           ((with_reducible apply l_assign); (focus (first | (simp only [EE]; done) | (simp only [EE]; exact rfl) | exact rfl)); (try simp only [SS, Nat.reduceAdd]))
           (with_reducible apply wpList_nil))
        | ((with_reducible apply (wp_region_lit (id := 7)))
           ((with_reducible apply l_loadN); (focus exact rfl); (focus (first | assumption | ((first | (apply rb; assumption) | (apply rx; assumption)); (focus (repeat (first | exact xr _ | assumption | (apply xt; assumption))))))); (focus exact rfl); (try simp only [SS, Nat.reduceAdd]))
           ((with_reducible apply l_loadN); (focus exact rfl); (focus (first | assumption | ((first | (apply rb; assumption) | (apply rx; assumption)); (focus (repeat (first | exact xr _ | assumption | (apply xt; assumption))))))); (focus exact rfl); (try simp only [SS, Nat.reduceAdd]))
           ((with_reducible apply l_enter); (focus (first | (simp only [EE]; done) | (simp only [EE]; exact rfl) | exact rfl)); first | ((with_reducible refine (better8_go a b _ ⟨by assumption, by assumption⟩).mono ?_);  rintro e w20 ⟨rfl, hx20⟩; (try simp only []); (try simp only [SS, Nat.reduceAdd])) | ((with_reducible refine (better8_go _ _ _ ?_).mono ?_); (focus (first | assumption | exact rfl | omega | ((apply SlR.ext); (focus assumption); (focus (repeat (first | exact xr _ | assumption | (apply xt; assumption)))); done) | ((apply Own.ext); (focus assumption); (focus (repeat (first | exact xr _ | assumption | (apply xt; assumption)))); done) | (simp; done))); rintro e w20 ⟨rfl, hx20⟩; (try simp only []); (try simp only [SS, Nat.reduceAdd])) | ((with_reducible refine (better8_any _ _ _ ?_ ?_).mono ?_); (focus (first | assumption | exact rfl | omega | ((apply SlR.ext); (focus assumption); (focus (repeat (first | exact xr _ | assumption | (apply xt; assumption)))); done) | ((apply Own.ext); (focus assumption); (focus (repeat (first | exact xr _ | assumption | (apply xt; assumption)))); done) | (simp; done))); (focus (first | assumption | exact rfl | omega | ((apply SlR.ext); (focus assumption); (focus (repeat (first | exact xr _ | assumption | (apply xt; assumption)))); done) | ((apply Own.ext); (focus assumption); (focus (repeat (first | exact xr _ | assumption | (apply xt; assumption)))); done) | (simp; done))); rintro e w20 ⟨rfl, hx20⟩; (try simp only []); (try simp only [SS, Nat.reduceAdd])))
           ((with_reducible apply l_assign); (focus (first | (simp only [EE]; done) | (simp only [EE]; exact rfl) | exact rfl)); (try simp only [SS, Nat.reduceAdd]))
           ((with_reducible apply l_assign); (focus (first | (simp only [EE]; done) | (simp only [EE]; exact rfl) | exact rfl)); (try simp only [SS, Nat.reduceAdd]))
           (with_reducible apply wpList_nil))
        | ((fail_if_success (with_reducible apply no_region)); (fail_if_success (with_reducible apply no_list)); (fail_if_success (with_reducible apply no_oper)); (fail_if_success (with_reducible apply no_par)); (fail_if_success (with_reducible apply no_loop)); go_step))
  all_goals
    go_ret2
    refine ⟨?_, (by (focus (repeat (first | exact xr _ | assumption | (apply xt; assumption)))))⟩
    simp_all [BetterN]
theorem Better_any (a b : Agr) (w : World) (ha : a.Ok) (hb : b.Ok) :
    Calls Tryd.prog 14 #[a.v, b.v] w fun e w' => e = .returned (.tuple #[.int .i64 (BetterN a b).1, .int .i64 (BetterN a b).2]) ∧ Ext w w' := by
  go_enter Tryd.func14, Tryd.ntmps14
  repeat' (
      first
        | ((with_reducible apply wp_seq_k); intro K hK)
        | (simp only [Exit.then, Exit.inBlock, ↓reduceIte, Nat.reduceEqDiff])
        | with_reducible apply wp_block
        | with_reducible apply wp_skip
        | with_reducible apply wp_exit
        | ((with_reducible apply wp_cond_true); (focus exact rfl))
        | ((with_reducible apply wp_cond_false); (focus exact rfl))
        | (((with_reducible apply wp_cond_split); (focus exact rfl)) <;> intro hb <;> (try simp only [bne_iff_ne, ne_eq, bne_eq_false_iff_eq, beq_iff_eq, beq_eq_false_iff_ne, decide_eq_true_eq, decide_eq_false_iff_not, Bool.not_eq_true', Bool.not_eq_false', Bool.and_eq_true, Bool.or_eq_true, Bool.and_eq_false_iff, Bool.or_eq_false_iff, Int.not_lt, Int.not_le, Bool.not_eq_true, Bool.not_eq_false] at hb) <;> (try (have hbl := And.left hb; have hbr := And.right hb)) <;> (try (have hbll := And.left hbl; have hblr := And.right hbl)) <;> (try first | contradiction | exact (bff hb (by assumption)).elim | exact (bft hb (by assumption)).elim | (exfalso; omega)))
        | ((with_reducible apply (wp_region_lit (id := 0)))
           ((with_reducible apply l_boxN); (focus exact rfl); intro g2 w2 hb2 hx2 hg2; (try simp only [SS, Nat.reduceAdd]))
           ((with_reducible apply l_boxN); (focus exact rfl); intro g3 w3 hb3 hx3 hg3; (try simp only [SS, Nat.reduceAdd]))
           ((with_reducible apply l_assign); (focus (first | (simp only [EE]; done) | (simp only [EE]; exact rfl) | exact rfl)); (try simp only [SS, Nat.reduceAdd]))
           ((with_reducible apply l_assign); (focus (first | (simp only [EE]; done) | (simp only [EE]; exact rfl) | exact rfl)); (try simp only [SS, Nat.reduceAdd]))
           (with_reducible apply wpList_nil))
        | ((with_reducible apply (wp_region_lit (id := 1)))
           ((with_reducible apply l_loadN); (focus exact rfl); (focus (first | assumption | ((first | (apply rb; assumption) | (apply rx; assumption)); (focus (repeat (first | exact xr _ | assumption | (apply xt; assumption))))))); (focus exact rfl); (try simp only [SS, Nat.reduceAdd]))
           ((with_reducible apply l_loadN); (focus exact rfl); (focus (first | assumption | ((first | (apply rb; assumption) | (apply rx; assumption)); (focus (repeat (first | exact xr _ | assumption | (apply xt; assumption))))))); (focus exact rfl); (try simp only [SS, Nat.reduceAdd]))
           ((with_reducible apply (l_buildSlice (xs := [(.tmp 9), (.tmp 10)]))); (focus exact rfl); (focus exact rfl); (focus (first | (simp only [EE]; done) | (simp only [EE]; exact rfl) | exact rfl)); (focus exact rfl); (focus exact rfl); (focus exact rfl); intro g11 w11 hb11 hx11 hg11; (try simp only [SB] at hb11); (try simp only [SS, Nat.reduceAdd]))
           ((with_reducible apply l_len_slice); (focus exact rfl); (try simp only [SS, Nat.reduceAdd]))
           ((with_reducible apply l_move); (focus (first | (simp only [EE]; done) | (simp only [EE]; exact rfl) | exact rfl)); (try simp only [SS, Nat.reduceAdd]))
           (with_reducible apply wpList_nil))
        | ((with_reducible apply (wp_region_lit (id := 2)))
           ((with_reducible apply l_lss); (focus exact rfl); (focus exact rfl); (try simp only [SS, Nat.reduceAdd]))
           (with_reducible apply wpList_nil))
        | ((with_reducible apply (wp_region_lit (id := 3)))
           ((with_reducible apply l_indexAddr); (focus exact rfl); (focus exact rfl); (focus (first | assumption | omega)); (focus (first | assumption | omega)); (try simp only [SS, Nat.reduceAdd]))
           ((with_reducible apply l_loadN); (focus exact rfl); (focus (first | assumption | ((first | (apply rb; assumption) | (apply rx; assumption)); (focus (repeat (first | exact xr _ | assumption | (apply xt; assumption))))))); (focus exact rfl); (try simp only [SS, Nat.reduceAdd]))
           ((with_reducible apply l_allocN); (focus (intro _; exact rfl)); (focus (intro _; exact rfl)); (focus exact rfl); intro g7 w7 hb7 hx7 hg7; (try simp only [SS, Nat.reduceAdd]))
           (with_reducible apply wpList_nil))
        | ((with_reducible apply (wp_region_lit (id := 4)))
           ((with_reducible apply l_loadN); (focus exact rfl); (focus (first | assumption | ((first | (apply rb; assumption) | (apply rx; assumption)); (focus (repeat (first | exact xr _ | assumption | (apply xt; assumption))))))); (focus exact rfl); (try simp only [SS, Nat.reduceAdd]))
           ((with_reducible apply l_enter); (focus (first | (simp only [EE]; done) | (simp only [EE]; exact rfl) | exact rfl)); first | ((with_reducible refine (ownFaultA _ _ ?_).mono ?_); (focus (first | assumption | exact rfl | omega | ((apply SlR.ext); (focus assumption); (focus (repeat (first | exact xr _ | assumption | (apply xt; assumption)))); done) | ((apply Own.ext); (focus assumption); (focus (repeat (first | exact xr _ | assumption | (apply xt; assumption)))); done) | (simp; done))); rintro e w18 ⟨rfl, hx18⟩; (try simp only []); (try simp only [SS, Nat.reduceAdd])) | ((with_reducible refine (ownFault_any _ _ _ _ _ _ _ _ _ _ ?_ ?_).mono ?_); (focus (first | assumption | exact rfl | omega | ((apply SlR.ext); (focus assumption); (focus (repeat (first | exact xr _ | assumption | (apply xt; assumption)))); done) | ((apply Own.ext); (focus assumption); (focus (repeat (first | exact xr _ | assumption | (apply xt; assumption)))); done) | (simp; done))); (focus (first | assumption | exact rfl | omega | ((apply SlR.ext); (focus assumption); (focus (repeat (first | exact xr _ | assumption | (apply xt; assumption)))); done) | ((apply Own.ext); (focus assumption); (focus (repeat (first | exact xr _ | assumption | (apply xt; assumption)))); done) | (simp; done))); rintro e w18 ⟨rfl, hx18⟩; (try simp only []); (try simp only [SS, Nat.reduceAdd])))
           ((with_reducible apply l_assign); (focus (first | (simp only [EE]; done) | (simp only [EE]; exact rfl) | exact rfl)); (try simp only [SS, Nat.reduceAdd]))
           (with_reducible apply wpList_nil))
        | ((with_reducible apply (wp_region_lit (id := 5)))
           ((with_reducible apply l_move); (focus (first | (simp only [EE]; done) | (simp only [EE]; exact rfl) | exact rfl)); (try simp only [SS, Nat.reduceAdd]))
           ((with_reducible apply l_neq); (focus exact rfl); (focus exact rfl); (try simp only [SS, Nat.reduceAdd]))
           (with_reducible apply wpList_nil))
        | ((with_reducible apply (wp_region_lit (id := 6)))
           ((with_reducible apply l_move); (focus (first | (simp only [EE]; done) | (simp only [EE]; exact rfl) | exact rfl)); (try simp only [SS, Nat.reduceAdd]))
           ((with_reducible apply l_assign); (focus (first | (simp only [EE]; done) | (simp only [EE]; exact rfl) | exact rfl)); (try simp only [SS, Nat.reduceAdd]))
           ((with_reducible apply l_assign); (focus (first | (simp only [EE]; done) | (simp only [EE]; exact rfl) | exact rfl)); (try simp only [SS, Nat.reduceAdd]))
           (with_reducible apply wpList_nil))
        | ((with_reducible apply (wp_region_lit (id := 7)))
           ((with_reducible apply l_add); (focus exact rfl); (focus exact rfl); (focus (first | (apply IntWalk.i64_in; omega) | exact IntWalk.i64_left _)); (try simp only [SS, Nat.reduceAdd]))
           ((with_reducible apply l_move); (focus (first | (simp only [EE]; done) | (simp only [EE]; exact rfl) | exact rfl)); (try simp only [SS, Nat.reduceAdd]))
           (with_reducible apply wpList_nil))
        | ((with_reducible apply (wp_region_lit (id := 8)))
           ((with_reducible apply l_loadN); (focus exact rfl); (focus (first | assumption | ((first | (apply rb; assumption) | (apply rx; assumption)); (focus (repeat (first | exact xr _ | assumption | (apply xt; assumption))))))); (focus exact rfl); (try simp only [SS, Nat.reduceAdd]))
           ((with_reducible apply l_loadN); (focus exact rfl); (focus (first | assumption | ((first | (apply rb; assumption) | (apply rx; assumption)); (focus (repeat (first | exact xr _ | assumption | (apply xt; assumption))))))); (focus exact rfl); (try simp only [SS, Nat.reduceAdd]))
           ((with_reducible apply l_enter); (focus (first | (simp only [EE]; done) | (simp only [EE]; exact rfl) | exact rfl)); first | ((with_reducible refine (better_go _ _ _ ?_).mono ?_); (focus (first | assumption | exact rfl | omega | ((apply SlR.ext); (focus assumption); (focus (repeat (first | exact xr _ | assumption | (apply xt; assumption)))); done) | ((apply Own.ext); (focus assumption); (focus (repeat (first | exact xr _ | assumption | (apply xt; assumption)))); done) | (simp; done))); rintro e w25 ⟨rfl, hx25⟩; (try simp only []); (try simp only [SS, Nat.reduceAdd])) | ((with_reducible refine (better_any _ _ _ ?_ ?_).mono ?_); (focus (first | assumption | exact rfl | omega | ((apply SlR.ext); (focus assumption); (focus (repeat (first | exact xr _ | assumption | (apply xt; assumption)))); done) | ((apply Own.ext); (focus assumption); (focus (repeat (first | exact xr _ | assumption | (apply xt; assumption)))); done) | (simp; done))); (focus (first | assumption | exact rfl | omega | ((apply SlR.ext); (focus assumption); (focus (repeat (first | exact xr _ | assumption | (apply xt; assumption)))); done) | ((apply Own.ext); (focus assumption); (focus (repeat (first | exact xr _ | assumption | (apply xt; assumption)))); done) | (simp; done))); rintro e w25 ⟨rfl, hx25⟩; (try simp only []); (try simp only [SS, Nat.reduceAdd])))
           ((with_reducible apply l_assign); (focus (first | (simp only [EE]; done) | (simp only [EE]; exact rfl) | exact rfl)); (try simp only [SS, Nat.reduceAdd]))
           ((with_reducible apply l_assign); (focus (first | (simp only [EE]; done) | (simp only [EE]; exact rfl) | exact rfl)); (try simp only [SS, Nat.reduceAdd]))
           (with_reducible apply wpList_nil))
        | ((fail_if_success (with_reducible apply no_region)); (fail_if_success (with_reducible apply no_list)); (fail_if_success (with_reducible apply no_oper)); (fail_if_success (with_reducible apply no_par)); (fail_if_success (with_reducible apply no_loop)); go_step))
  have hr0 : RowAt w11 g11 0 [sv a.fr, sv a.tgt, sv a.msg, sv a.ver, .int .i64 a.first, .int .i64 a.last, .bool a.test, .int .i64 a.reply, .bool a.inOrder] := RowAt.left (ys := [sv b.fr, sv b.tgt, sv b.msg, sv b.ver, .int .i64 b.first, .int .i64 b.last, .bool b.test, .int .i64 b.reply, .bool b.inOrder]) (row_blk hb11 (Ext.refl _))
  have hr1 : RowAt w11 g11 9 [sv b.fr, sv b.tgt, sv b.msg, sv b.ver, .int .i64 b.first, .int .i64 b.last, .bool b.test, .int .i64 b.reply, .bool b.inOrder] := by
    have := RowAt.right (xs := [sv a.fr, sv a.tgt, sv a.msg, sv a.ver, .int .i64 a.first, .int .i64 a.last, .bool a.test, .int .i64 a.reply, .bool a.inOrder]) (ys := [sv b.fr, sv b.tgt, sv b.msg, sv b.ver, .int .i64 b.first, .int .i64 b.last, .bool b.test, .int .i64 b.reply, .bool b.inOrder]) (row_blk hb11 (Ext.refl _))
    simpa using this
  go_loopw [13] (fun i wr => ((i = .int .i64 0 ∨ (i = .int .i64 1 ∧ ownFaultN a = 0) ∨ (i = .int .i64 2 ∧ ownFaultN a = 0 ∧ ownFaultN b = 0)) ∧ Ext w11 wr)) (fun i _ => 2 - (intOf i).toNat)
  case atStart => exact ⟨.inl rfl, Ext.refl _⟩
  case round =>
    obtain ⟨hcase, hxl⟩ := hrel
    have hrA := hr0.ext hxl
    have hrB := hr1.ext hxl
    rcases hcase with rfl | ⟨rfl, hfa⟩ | ⟨rfl, hfa, hfb⟩
    · repeat' (
          first
            | ((with_reducible apply wp_seq_k); intro K hK)
            | (simp only [Exit.then, Exit.inBlock, ↓reduceIte, Nat.reduceEqDiff])
            | with_reducible apply wp_block
            | with_reducible apply wp_skip
            | with_reducible apply wp_exit
            | ((with_reducible apply wp_cond_true); (focus exact rfl))
            | ((with_reducible apply wp_cond_false); (focus exact rfl))
            | (((with_reducible apply wp_cond_split); (focus exact rfl)) <;> intro hb <;> (try simp only [bne_iff_ne, ne_eq, bne_eq_false_iff_eq, beq_iff_eq, beq_eq_false_iff_ne, decide_eq_true_eq, decide_eq_false_iff_not, Bool.not_eq_true', Bool.not_eq_false', Bool.and_eq_true, Bool.or_eq_true, Bool.and_eq_false_iff, Bool.or_eq_false_iff, Int.not_lt, Int.not_le, Bool.not_eq_true, Bool.not_eq_false] at hb) <;> (try (have hbl := And.left hb; have hbr := And.right hb)) <;> (try (have hbll := And.left hbl; have hblr := And.right hbl)) <;> (try first | contradiction | exact (bff hb (by assumption)).elim | exact (bft hb (by assumption)).elim | (exfalso; omega)))
            | ((with_reducible apply (wp_region_lit (id := 0)))
               ((with_reducible apply l_boxN); (focus exact rfl); intro g2 w2 hb2 hx2 hg2; (try simp only [SS, Nat.reduceAdd]))
               ((with_reducible apply l_boxN); (focus exact rfl); intro g3 w3 hb3 hx3 hg3; (try simp only [SS, Nat.reduceAdd]))
               ((with_reducible apply l_assign); (focus (first | (simp only [EE]; done) | (simp only [EE]; exact rfl) | exact rfl)); (try simp only [SS, Nat.reduceAdd]))
               ((with_reducible apply l_assign); (focus (first | (simp only [EE]; done) | (simp only [EE]; exact rfl) | exact rfl)); (try simp only [SS, Nat.reduceAdd]))
               (with_reducible apply wpList_nil))
            | ((with_reducible apply (wp_region_lit (id := 1)))
               ((with_reducible apply l_loadN); (focus exact rfl); (focus (first | assumption | ((first | (apply rb; assumption) | (apply rx; assumption)); (focus (repeat (first | exact xr _ | assumption | (apply xt; assumption))))))); (focus exact rfl); (try simp only [SS, Nat.reduceAdd]))
               ((with_reducible apply l_loadN); (focus exact rfl); (focus (first | assumption | ((first | (apply rb; assumption) | (apply rx; assumption)); (focus (repeat (first | exact xr _ | assumption | (apply xt; assumption))))))); (focus exact rfl); (try simp only [SS, Nat.reduceAdd]))
               ((with_reducible apply (l_buildSlice (xs := [(.tmp 9), (.tmp 10)]))); (focus exact rfl); (focus exact rfl); (focus (first | (simp only [EE]; done) | (simp only [EE]; exact rfl) | exact rfl)); (focus exact rfl); (focus exact rfl); (focus exact rfl); intro g11 w11 hb11 hx11 hg11; (try simp only [SB] at hb11); (try simp only [SS, Nat.reduceAdd]))
               ((with_reducible apply l_len_slice); (focus exact rfl); (try simp only [SS, Nat.reduceAdd]))
               ((with_reducible apply l_move); (focus (first | (simp only [EE]; done) | (simp only [EE]; exact rfl) | exact rfl)); (try simp only [SS, Nat.reduceAdd]))
               (with_reducible apply wpList_nil))
            | ((with_reducible apply (wp_region_lit (id := 2)))
               ((with_reducible apply l_lss); (focus exact rfl); (focus exact rfl); (try simp only [SS, Nat.reduceAdd]))
               (with_reducible apply wpList_nil))
            | ((with_reducible apply (wp_region_lit (id := 3)))
               ((with_reducible apply l_indexAddr); (focus exact rfl); (focus exact rfl); (focus (first | assumption | omega)); (focus (first | assumption | omega)); (try simp only [SS, Nat.reduceAdd]))
               ((with_reducible apply l_loadN); (focus exact rfl); (focus (first | assumption | ((first | (apply rb; assumption) | (apply rx; assumption)); (focus (repeat (first | exact xr _ | assumption | (apply xt; assumption))))))); (focus exact rfl); (try simp only [SS, Nat.reduceAdd]))
               ((with_reducible apply l_allocN); (focus (intro _; exact rfl)); (focus (intro _; exact rfl)); (focus exact rfl); intro g7 w7 hb7 hx7 hg7; (try simp only [SS, Nat.reduceAdd]))
               (with_reducible apply wpList_nil))
            | ((with_reducible apply (wp_region_lit (id := 4)))
               ((with_reducible apply l_loadN); (focus exact rfl); (focus (first | assumption | ((first | (apply rb; assumption) | (apply rx; assumption)); (focus (repeat (first | exact xr _ | assumption | (apply xt; assumption))))))); (focus exact rfl); (try simp only [SS, Nat.reduceAdd]))
               ((with_reducible apply l_enter); (focus (first | (simp only [EE]; done) | (simp only [EE]; exact rfl) | exact rfl)); first | ((with_reducible refine (ownFaultA _ _ ?_).mono ?_); (focus (first | assumption | exact rfl | omega | ((apply SlR.ext); (focus assumption); (focus (repeat (first | exact xr _ | assumption | (apply xt; assumption)))); done) | ((apply Own.ext); (focus assumption); (focus (repeat (first | exact xr _ | assumption | (apply xt; assumption)))); done) | (simp; done))); rintro e w18 ⟨rfl, hx18⟩; (try simp only []); (try simp only [SS, Nat.reduceAdd])) | ((with_reducible refine (ownFault_any _ _ _ _ _ _ _ _ _ _ ?_ ?_).mono ?_); (focus (first | assumption | exact rfl | omega | ((apply SlR.ext); (focus assumption); (focus (repeat (first | exact xr _ | assumption | (apply xt; assumption)))); done) | ((apply Own.ext); (focus assumption); (focus (repeat (first | exact xr _ | assumption | (apply xt; assumption)))); done) | (simp; done))); (focus (first | assumption | exact rfl | omega | ((apply SlR.ext); (focus assumption); (focus (repeat (first | exact xr _ | assumption | (apply xt; assumption)))); done) | ((apply Own.ext); (focus assumption); (focus (repeat (first | exact xr _ | assumption | (apply xt; assumption)))); done) | (simp; done))); rintro e w18 ⟨rfl, hx18⟩; (try simp only []); (try simp only [SS, Nat.reduceAdd])))
               ((with_reducible apply l_assign); (focus (first | (simp only [EE]; done) | (simp only [EE]; exact rfl) | exact rfl)); (try simp only [SS, Nat.reduceAdd]))
               (with_reducible apply wpList_nil))
            | ((with_reducible apply (wp_region_lit (id := 5)))
               ((with_reducible apply l_move); (focus (first | (simp only [EE]; done) | (simp only [EE]; exact rfl) | exact rfl)); (try simp only [SS, Nat.reduceAdd]))
               ((with_reducible apply l_neq); (focus exact rfl); (focus exact rfl); (try simp only [SS, Nat.reduceAdd]))
               (with_reducible apply wpList_nil))
            | ((with_reducible apply (wp_region_lit (id := 6)))
               ((with_reducible apply l_move); (focus (first | (simp only [EE]; done) | (simp only [EE]; exact rfl) | exact rfl)); (try simp only [SS, Nat.reduceAdd]))
               ((with_reducible apply l_assign); (focus (first | (simp only [EE]; done) | (simp only [EE]; exact rfl) | exact rfl)); (try simp only [SS, Nat.reduceAdd]))
               ((with_reducible apply l_assign); (focus (first | (simp only [EE]; done) | (simp only [EE]; exact rfl) | exact rfl)); (try simp only [SS, Nat.reduceAdd]))
               (with_reducible apply wpList_nil))
            | ((with_reducible apply (wp_region_lit (id := 7)))
               ((with_reducible apply l_add); (focus exact rfl); (focus exact rfl); (focus (first | (apply IntWalk.i64_in; omega) | exact IntWalk.i64_left _)); (try simp only [SS, Nat.reduceAdd]))
               ((with_reducible apply l_move); (focus (first | (simp only [EE]; done) | (simp only [EE]; exact rfl) | exact rfl)); (try simp only [SS, Nat.reduceAdd]))
               (with_reducible apply wpList_nil))
            | ((with_reducible apply (wp_region_lit (id := 8)))
               ((with_reducible apply l_loadN); (focus exact rfl); (focus (first | assumption | ((first | (apply rb; assumption) | (apply rx; assumption)); (focus (repeat (first | exact xr _ | assumption | (apply xt; assumption))))))); (focus exact rfl); (try simp only [SS, Nat.reduceAdd]))
               ((with_reducible apply l_loadN); (focus exact rfl); (focus (first | assumption | ((first | (apply rb; assumption) | (apply rx; assumption)); (focus (repeat (first | exact xr _ | assumption | (apply xt; assumption))))))); (focus exact rfl); (try simp only [SS, Nat.reduceAdd]))
               ((with_reducible apply l_enter); (focus (first | (simp only [EE]; done) | (simp only [EE]; exact rfl) | exact rfl)); first | ((with_reducible refine (better_go _ _ _ ?_).mono ?_); (focus (first | assumption | exact rfl | omega | ((apply SlR.ext); (focus assumption); (focus (repeat (first | exact xr _ | assumption | (apply xt; assumption)))); done) | ((apply Own.ext); (focus assumption); (focus (repeat (first | exact xr _ | assumption | (apply xt; assumption)))); done) | (simp; done))); rintro e w25 ⟨rfl, hx25⟩; (try simp only []); (try simp only [SS, Nat.reduceAdd])) | ((with_reducible refine (better_any _ _ _ ?_ ?_).mono ?_); (focus (first | assumption | exact rfl | omega | ((apply SlR.ext); (focus assumption); (focus (repeat (first | exact xr _ | assumption | (apply xt; assumption)))); done) | ((apply Own.ext); (focus assumption); (focus (repeat (first | exact xr _ | assumption | (apply xt; assumption)))); done) | (simp; done))); (focus (first | assumption | exact rfl | omega | ((apply SlR.ext); (focus assumption); (focus (repeat (first | exact xr _ | assumption | (apply xt; assumption)))); done) | ((apply Own.ext); (focus assumption); (focus (repeat (first | exact xr _ | assumption | (apply xt; assumption)))); done) | (simp; done))); rintro e w25 ⟨rfl, hx25⟩; (try simp only []); (try simp only [SS, Nat.reduceAdd])))
               ((with_reducible apply l_assign); (focus (first | (simp only [EE]; done) | (simp only [EE]; exact rfl) | exact rfl)); (try simp only [SS, Nat.reduceAdd]))
               ((with_reducible apply l_assign); (focus (first | (simp only [EE]; done) | (simp only [EE]; exact rfl) | exact rfl)); (try simp only [SS, Nat.reduceAdd]))
               (with_reducible apply wpList_nil))
            | ((fail_if_success (with_reducible apply no_region)); (fail_if_success (with_reducible apply no_list)); (fail_if_success (with_reducible apply no_oper)); (fail_if_success (with_reducible apply no_par)); (fail_if_success (with_reducible apply no_loop)); go_step))
      · go_ret2
        refine ⟨?_, (by (focus (repeat (first | exact xr _ | assumption | (apply xt; assumption)))))⟩
        simp_all [BetterN]
      · go_roundw
        case rel => exact ⟨.inr (.inl ⟨by simp, by assumption⟩), (by (focus (repeat (first | exact xr _ | assumption | (apply xt; assumption)))))⟩
        case measure => simp [intOf]
    · repeat' (
          first
            | ((with_reducible apply wp_seq_k); intro K hK)
            | (simp only [Exit.then, Exit.inBlock, ↓reduceIte, Nat.reduceEqDiff])
            | with_reducible apply wp_block
            | with_reducible apply wp_skip
            | with_reducible apply wp_exit
            | ((with_reducible apply wp_cond_true); (focus exact rfl))
            | ((with_reducible apply wp_cond_false); (focus exact rfl))
            | (((with_reducible apply wp_cond_split); (focus exact rfl)) <;> intro hb <;> (try simp only [bne_iff_ne, ne_eq, bne_eq_false_iff_eq, beq_iff_eq, beq_eq_false_iff_ne, decide_eq_true_eq, decide_eq_false_iff_not, Bool.not_eq_true', Bool.not_eq_false', Bool.and_eq_true, Bool.or_eq_true, Bool.and_eq_false_iff, Bool.or_eq_false_iff, Int.not_lt, Int.not_le, Bool.not_eq_true, Bool.not_eq_false] at hb) <;> (try (have hbl := And.left hb; have hbr := And.right hb)) <;> (try (have hbll := And.left hbl; have hblr := And.right hbl)) <;> (try first | contradiction | exact (bff hb (by assumption)).elim | exact (bft hb (by assumption)).elim | (exfalso; omega)))
            | ((with_reducible apply (wp_region_lit (id := 0)))
               ((with_reducible apply l_boxN); (focus exact rfl); intro g2 w2 hb2 hx2 hg2; (try simp only [SS, Nat.reduceAdd]))
               ((with_reducible apply l_boxN); (focus exact rfl); intro g3 w3 hb3 hx3 hg3; (try simp only [SS, Nat.reduceAdd]))
               ((with_reducible apply l_assign); (focus (first | (simp only [EE]; done) | (simp only [EE]; exact rfl) | exact rfl)); (try simp only [SS, Nat.reduceAdd]))
               ((with_reducible apply l_assign); (focus (first | (simp only [EE]; done) | (simp only [EE]; exact rfl) | exact rfl)); (try simp only [SS, Nat.reduceAdd]))
               (with_reducible apply wpList_nil))
            | ((with_reducible apply (wp_region_lit (id := 1)))
               ((with_reducible apply l_loadN); (focus exact rfl); (focus (first | assumption | ((first | (apply rb; assumption) | (apply rx; assumption)); (focus (repeat (first | exact xr _ | assumption | (apply xt; assumption))))))); (focus exact rfl); (try simp only [SS, Nat.reduceAdd]))
               ((with_reducible apply l_loadN); (focus exact rfl); (focus (first | assumption | ((first | (apply rb; assumption) | (apply rx; assumption)); (focus (repeat (first | exact xr _ | assumption | (apply xt; assumption))))))); (focus exact rfl); (try simp only [SS, Nat.reduceAdd]))
               ((with_reducible apply (l_buildSlice (xs := [(.tmp 9), (.tmp 10)]))); (focus exact rfl); (focus exact rfl); (focus (first | (simp only [EE]; done) | (simp only [EE]; exact rfl) | exact rfl)); (focus exact rfl); (focus exact rfl); (focus exact rfl); intro g11 w11 hb11 hx11 hg11; (try simp only [SB] at hb11); (try simp only [SS, Nat.reduceAdd]))
               ((with_reducible apply l_len_slice); (focus exact rfl); (try simp only [SS, Nat.reduceAdd]))
               ((with_reducible apply l_move); (focus (first | (simp only [EE]; done) | (simp only [EE]; exact rfl) | exact rfl)); (try simp only [SS, Nat.reduceAdd]))
               (with_reducible apply wpList_nil))
            | ((with_reducible apply (wp_region_lit (id := 2)))
               ((with_reducible apply l_lss); (focus exact rfl); (focus exact rfl); (try simp only [SS, Nat.reduceAdd]))
               (with_reducible apply wpList_nil))
            | ((with_reducible apply (wp_region_lit (id := 3)))
               ((with_reducible apply l_indexAddr); (focus exact rfl); (focus exact rfl); (focus (first | assumption | omega)); (focus (first | assumption | omega)); (try simp only [SS, Nat.reduceAdd]))
               ((with_reducible apply l_loadN); (focus exact rfl); (focus (first | assumption | ((first | (apply rb; assumption) | (apply rx; assumption)); (focus (repeat (first | exact xr _ | assumption | (apply xt; assumption))))))); (focus exact rfl); (try simp only [SS, Nat.reduceAdd]))
               ((with_reducible apply l_allocN); (focus (intro _; exact rfl)); (focus (intro _; exact rfl)); (focus exact rfl); intro g7 w7 hb7 hx7 hg7; (try simp only [SS, Nat.reduceAdd]))
               (with_reducible apply wpList_nil))
            | ((with_reducible apply (wp_region_lit (id := 4)))
               ((with_reducible apply l_loadN); (focus exact rfl); (focus (first | assumption | ((first | (apply rb; assumption) | (apply rx; assumption)); (focus (repeat (first | exact xr _ | assumption | (apply xt; assumption))))))); (focus exact rfl); (try simp only [SS, Nat.reduceAdd]))
               ((with_reducible apply l_enter); (focus (first | (simp only [EE]; done) | (simp only [EE]; exact rfl) | exact rfl)); first | ((with_reducible refine (ownFaultA _ _ ?_).mono ?_); (focus (first | assumption | exact rfl | omega | ((apply SlR.ext); (focus assumption); (focus (repeat (first | exact xr _ | assumption | (apply xt; assumption)))); done) | ((apply Own.ext); (focus assumption); (focus (repeat (first | exact xr _ | assumption | (apply xt; assumption)))); done) | (simp; done))); rintro e w18 ⟨rfl, hx18⟩; (try simp only []); (try simp only [SS, Nat.reduceAdd])) | ((with_reducible refine (ownFault_any _ _ _ _ _ _ _ _ _ _ ?_ ?_).mono ?_); (focus (first | assumption | exact rfl | omega | ((apply SlR.ext); (focus assumption); (focus (repeat (first | exact xr _ | assumption | (apply xt; assumption)))); done) | ((apply Own.ext); (focus assumption); (focus (repeat (first | exact xr _ | assumption | (apply xt; assumption)))); done) | (simp; done))); (focus (first | assumption | exact rfl | omega | ((apply SlR.ext); (focus assumption); (focus (repeat (first | exact xr _ | assumption | (apply xt; assumption)))); done) | ((apply Own.ext); (focus assumption); (focus (repeat (first | exact xr _ | assumption | (apply xt; assumption)))); done) | (simp; done))); rintro e w18 ⟨rfl, hx18⟩; (try simp only []); (try simp only [SS, Nat.reduceAdd])))
               ((with_reducible apply l_assign); (focus (first | (simp only [EE]; done) | (simp only [EE]; exact rfl) | exact rfl)); (try simp only [SS, Nat.reduceAdd]))
               (with_reducible apply wpList_nil))
            | ((with_reducible apply (wp_region_lit (id := 5)))
               ((with_reducible apply l_move); (focus (first | (simp only [EE]; done) | (simp only [EE]; exact rfl) | exact rfl)); (try simp only [SS, Nat.reduceAdd]))
               ((with_reducible apply l_neq); (focus exact rfl); (focus exact rfl); (try simp only [SS, Nat.reduceAdd]))
               (with_reducible apply wpList_nil))
            | ((with_reducible apply (wp_region_lit (id := 6)))
               ((with_reducible apply l_move); (focus (first | (simp only [EE]; done) | (simp only [EE]; exact rfl) | exact rfl)); (try simp only [SS, Nat.reduceAdd]))
               ((with_reducible apply l_assign); (focus (first | (simp only [EE]; done) | (simp only [EE]; exact rfl) | exact rfl)); (try simp only [SS, Nat.reduceAdd]))
               ((with_reducible apply l_assign); (focus (first | (simp only [EE]; done) | (simp only [EE]; exact rfl) | exact rfl)); (try simp only [SS, Nat.reduceAdd]))
               (with_reducible apply wpList_nil))
            | ((with_reducible apply (wp_region_lit (id := 7)))
               ((with_reducible apply l_add); (focus exact rfl); (focus exact rfl); (focus (first | (apply IntWalk.i64_in; omega) | exact IntWalk.i64_left _)); (try simp only [SS, Nat.reduceAdd]))
               ((with_reducible apply l_move); (focus (first | (simp only [EE]; done) | (simp only [EE]; exact rfl) | exact rfl)); (try simp only [SS, Nat.reduceAdd]))
               (with_reducible apply wpList_nil))
            | ((with_reducible apply (wp_region_lit (id := 8)))
               ((with_reducible apply l_loadN); (focus exact rfl); (focus (first | assumption | ((first | (apply rb; assumption) | (apply rx; assumption)); (focus (repeat (first | exact xr _ | assumption | (apply xt; assumption))))))); (focus exact rfl); (try simp only [SS, Nat.reduceAdd]))
               ((with_reducible apply l_loadN); (focus exact rfl); (focus (first | assumption | ((first | (apply rb; assumption) | (apply rx; assumption)); (focus (repeat (first | exact xr _ | assumption | (apply xt; assumption))))))); (focus exact rfl); (try simp only [SS, Nat.reduceAdd]))
               ((with_reducible apply l_enter); (focus (first | (simp only [EE]; done) | (simp only [EE]; exact rfl) | exact rfl)); first | ((with_reducible refine (better_go _ _ _ ?_).mono ?_); (focus (first | assumption | exact rfl | omega | ((apply SlR.ext); (focus assumption); (focus (repeat (first | exact xr _ | assumption | (apply xt; assumption)))); done) | ((apply Own.ext); (focus assumption); (focus (repeat (first | exact xr _ | assumption | (apply xt; assumption)))); done) | (simp; done))); rintro e w25 ⟨rfl, hx25⟩; (try simp only []); (try simp only [SS, Nat.reduceAdd])) | ((with_reducible refine (better_any _ _ _ ?_ ?_).mono ?_); (focus (first | assumption | exact rfl | omega | ((apply SlR.ext); (focus assumption); (focus (repeat (first | exact xr _ | assumption | (apply xt; assumption)))); done) | ((apply Own.ext); (focus assumption); (focus (repeat (first | exact xr _ | assumption | (apply xt; assumption)))); done) | (simp; done))); (focus (first | assumption | exact rfl | omega | ((apply SlR.ext); (focus assumption); (focus (repeat (first | exact xr _ | assumption | (apply xt; assumption)))); done) | ((apply Own.ext); (focus assumption); (focus (repeat (first | exact xr _ | assumption | (apply xt; assumption)))); done) | (simp; done))); rintro e w25 ⟨rfl, hx25⟩; (try simp only []); (try simp only [SS, Nat.reduceAdd])))
               ((with_reducible apply l_assign); (focus (first | (simp only [EE]; done) | (simp only [EE]; exact rfl) | exact rfl)); (try simp only [SS, Nat.reduceAdd]))
               ((with_reducible apply l_assign); (focus (first | (simp only [EE]; done) | (simp only [EE]; exact rfl) | exact rfl)); (try simp only [SS, Nat.reduceAdd]))
               (with_reducible apply wpList_nil))
            | ((fail_if_success (with_reducible apply no_region)); (fail_if_success (with_reducible apply no_list)); (fail_if_success (with_reducible apply no_oper)); (fail_if_success (with_reducible apply no_par)); (fail_if_success (with_reducible apply no_loop)); go_step))
      · go_ret2
        refine ⟨?_, (by (focus (repeat (first | exact xr _ | assumption | (apply xt; assumption)))))⟩
        simp_all [BetterN]
      · go_roundw
        case rel => exact ⟨.inr (.inr ⟨by simp, by assumption, by assumption⟩), (by (focus (repeat (first | exact xr _ | assumption | (apply xt; assumption)))))⟩
        case measure => simp [intOf]
    · repeat' (
          first
            | ((with_reducible apply wp_seq_k); intro K hK)
            | (simp only [Exit.then, Exit.inBlock, ↓reduceIte, Nat.reduceEqDiff])
            | with_reducible apply wp_block
            | with_reducible apply wp_skip
            | with_reducible apply wp_exit
            | ((with_reducible apply wp_cond_true); (focus exact rfl))
            | ((with_reducible apply wp_cond_false); (focus exact rfl))
            | (((with_reducible apply wp_cond_split); (focus exact rfl)) <;> intro hb <;> (try simp only [bne_iff_ne, ne_eq, bne_eq_false_iff_eq, beq_iff_eq, beq_eq_false_iff_ne, decide_eq_true_eq, decide_eq_false_iff_not, Bool.not_eq_true', Bool.not_eq_false', Bool.and_eq_true, Bool.or_eq_true, Bool.and_eq_false_iff, Bool.or_eq_false_iff, Int.not_lt, Int.not_le, Bool.not_eq_true, Bool.not_eq_false] at hb) <;> (try (have hbl := And.left hb; have hbr := And.right hb)) <;> (try (have hbll := And.left hbl; have hblr := And.right hbl)) <;> (try first | contradiction | exact (bff hb (by assumption)).elim | exact (bft hb (by assumption)).elim | (exfalso; omega)))
            | ((with_reducible apply (wp_region_lit (id := 0)))
               ((with_reducible apply l_boxN); (focus exact rfl); intro g2 w2 hb2 hx2 hg2; (try simp only [SS, Nat.reduceAdd]))
               ((with_reducible apply l_boxN); (focus exact rfl); intro g3 w3 hb3 hx3 hg3; (try simp only [SS, Nat.reduceAdd]))
               ((with_reducible apply l_assign); (focus (first | (simp only [EE]; done) | (simp only [EE]; exact rfl) | exact rfl)); (try simp only [SS, Nat.reduceAdd]))
               ((with_reducible apply l_assign); (focus (first | (simp only [EE]; done) | (simp only [EE]; exact rfl) | exact rfl)); (try simp only [SS, Nat.reduceAdd]))
               (with_reducible apply wpList_nil))
            | ((with_reducible apply (wp_region_lit (id := 1)))
               ((with_reducible apply l_loadN); (focus exact rfl); (focus (first | assumption | ((first | (apply rb; assumption) | (apply rx; assumption)); (focus (repeat (first | exact xr _ | assumption | (apply xt; assumption))))))); (focus exact rfl); (try simp only [SS, Nat.reduceAdd]))
               ((with_reducible apply l_loadN); (focus exact rfl); (focus (first | assumption | ((first | (apply rb; assumption) | (apply rx; assumption)); (focus (repeat (first | exact xr _ | assumption | (apply xt; assumption))))))); (focus exact rfl); (try simp only [SS, Nat.reduceAdd]))
               ((with_reducible apply (l_buildSlice (xs := [(.tmp 9), (.tmp 10)]))); (focus exact rfl); (focus exact rfl); (focus (first | (simp only [EE]; done) | (simp only [EE]; exact rfl) | exact rfl)); (focus exact rfl); (focus exact rfl); (focus exact rfl); intro g11 w11 hb11 hx11 hg11; (try simp only [SB] at hb11); (try simp only [SS, Nat.reduceAdd]))
               ((with_reducible apply l_len_slice); (focus exact rfl); (try simp only [SS, Nat.reduceAdd]))
               ((with_reducible apply l_move); (focus (first | (simp only [EE]; done) | (simp only [EE]; exact rfl) | exact rfl)); (try simp only [SS, Nat.reduceAdd]))
               (with_reducible apply wpList_nil))
            | ((with_reducible apply (wp_region_lit (id := 2)))
               ((with_reducible apply l_lss); (focus exact rfl); (focus exact rfl); (try simp only [SS, Nat.reduceAdd]))
               (with_reducible apply wpList_nil))
            | ((with_reducible apply (wp_region_lit (id := 3)))
               ((with_reducible apply l_indexAddr); (focus exact rfl); (focus exact rfl); (focus (first | assumption | omega)); (focus (first | assumption | omega)); (try simp only [SS, Nat.reduceAdd]))
               ((with_reducible apply l_loadN); (focus exact rfl); (focus (first | assumption | ((first | (apply rb; assumption) | (apply rx; assumption)); (focus (repeat (first | exact xr _ | assumption | (apply xt; assumption))))))); (focus exact rfl); (try simp only [SS, Nat.reduceAdd]))
               ((with_reducible apply l_allocN); (focus (intro _; exact rfl)); (focus (intro _; exact rfl)); (focus exact rfl); intro g7 w7 hb7 hx7 hg7; (try simp only [SS, Nat.reduceAdd]))
               (with_reducible apply wpList_nil))
            | ((with_reducible apply (wp_region_lit (id := 4)))
               ((with_reducible apply l_loadN); (focus exact rfl); (focus (first | assumption | ((first | (apply rb; assumption) | (apply rx; assumption)); (focus (repeat (first | exact xr _ | assumption | (apply xt; assumption))))))); (focus exact rfl); (try simp only [SS, Nat.reduceAdd]))
               ((with_reducible apply l_enter); (focus (first | (simp only [EE]; done) | (simp only [EE]; exact rfl) | exact rfl)); first | ((with_reducible refine (ownFaultA _ _ ?_).mono ?_); (focus (first | assumption | exact rfl | omega | ((apply SlR.ext); (focus assumption); (focus (repeat (first | exact xr _ | assumption | (apply xt; assumption)))); done) | ((apply Own.ext); (focus assumption); (focus (repeat (first | exact xr _ | assumption | (apply xt; assumption)))); done) | (simp; done))); rintro e w18 ⟨rfl, hx18⟩; (try simp only []); (try simp only [SS, Nat.reduceAdd])) | ((with_reducible refine (ownFault_any _ _ _ _ _ _ _ _ _ _ ?_ ?_).mono ?_); (focus (first | assumption | exact rfl | omega | ((apply SlR.ext); (focus assumption); (focus (repeat (first | exact xr _ | assumption | (apply xt; assumption)))); done) | ((apply Own.ext); (focus assumption); (focus (repeat (first | exact xr _ | assumption | (apply xt; assumption)))); done) | (simp; done))); (focus (first | assumption | exact rfl | omega | ((apply SlR.ext); (focus assumption); (focus (repeat (first | exact xr _ | assumption | (apply xt; assumption)))); done) | ((apply Own.ext); (focus assumption); (focus (repeat (first | exact xr _ | assumption | (apply xt; assumption)))); done) | (simp; done))); rintro e w18 ⟨rfl, hx18⟩; (try simp only []); (try simp only [SS, Nat.reduceAdd])))
               ((with_reducible apply l_assign); (focus (first | (simp only [EE]; done) | (simp only [EE]; exact rfl) | exact rfl)); (try simp only [SS, Nat.reduceAdd]))
               (with_reducible apply wpList_nil))
            | ((with_reducible apply (wp_region_lit (id := 5)))
               ((with_reducible apply l_move); (focus (first | (simp only [EE]; done) | (simp only [EE]; exact rfl) | exact rfl)); (try simp only [SS, Nat.reduceAdd]))
               ((with_reducible apply l_neq); (focus exact rfl); (focus exact rfl); (try simp only [SS, Nat.reduceAdd]))
               (with_reducible apply wpList_nil))
            | ((with_reducible apply (wp_region_lit (id := 6)))
               ((with_reducible apply l_move); (focus (first | (simp only [EE]; done) | (simp only [EE]; exact rfl) | exact rfl)); (try simp only [SS, Nat.reduceAdd]))
               ((with_reducible apply l_assign); (focus (first | (simp only [EE]; done) | (simp only [EE]; exact rfl) | exact rfl)); (try simp only [SS, Nat.reduceAdd]))
               ((with_reducible apply l_assign); (focus (first | (simp only [EE]; done) | (simp only [EE]; exact rfl) | exact rfl)); (try simp only [SS, Nat.reduceAdd]))
               (with_reducible apply wpList_nil))
            | ((with_reducible apply (wp_region_lit (id := 7)))
               ((with_reducible apply l_add); (focus exact rfl); (focus exact rfl); (focus (first | (apply IntWalk.i64_in; omega) | exact IntWalk.i64_left _)); (try simp only [SS, Nat.reduceAdd]))
               ((with_reducible apply l_move); (focus (first | (simp only [EE]; done) | (simp only [EE]; exact rfl) | exact rfl)); (try simp only [SS, Nat.reduceAdd]))
               (with_reducible apply wpList_nil))
            | ((with_reducible apply (wp_region_lit (id := 8)))
               ((with_reducible apply l_loadN); (focus exact rfl); (focus (first | assumption | ((first | (apply rb; assumption) | (apply rx; assumption)); (focus (repeat (first | exact xr _ | assumption | (apply xt; assumption))))))); (focus exact rfl); (try simp only [SS, Nat.reduceAdd]))
               ((with_reducible apply l_loadN); (focus exact rfl); (focus (first | assumption | ((first | (apply rb; assumption) | (apply rx; assumption)); (focus (repeat (first | exact xr _ | assumption | (apply xt; assumption))))))); (focus exact rfl); (try simp only [SS, Nat.reduceAdd]))
               ((with_reducible apply l_enter); (focus (first | (simp only [EE]; done) | (simp only [EE]; exact rfl) | exact rfl)); first | ((with_reducible refine (better_go a b _ ⟨by assumption, by assumption⟩).mono ?_);  rintro e w25 ⟨rfl, hx25⟩; (try simp only []); (try simp only [SS, Nat.reduceAdd])) | ((with_reducible refine (better_go _ _ _ ?_).mono ?_); (focus (first | assumption | exact rfl | omega | ((apply SlR.ext); (focus assumption); (focus (repeat (first | exact xr _ | assumption | (apply xt; assumption)))); done) | ((apply Own.ext); (focus assumption); (focus (repeat (first | exact xr _ | assumption | (apply xt; assumption)))); done) | (simp; done))); rintro e w25 ⟨rfl, hx25⟩; (try simp only []); (try simp only [SS, Nat.reduceAdd])) | ((with_reducible refine (better_any _ _ _ ?_ ?_).mono ?_); (focus (first | assumption | exact rfl | omega | ((apply SlR.ext); (focus assumption); (focus (repeat (first | exact xr _ | assumption | (apply xt; assumption)))); done) | ((apply Own.ext); (focus assumption); (focus (repeat (first | exact xr _ | assumption | (apply xt; assumption)))); done) | (simp; done))); (focus (first | assumption | exact rfl | omega | ((apply SlR.ext); (focus assumption); (focus (repeat (first | exact xr _ | assumption | (apply xt; assumption)))); done) | ((apply Own.ext); (focus assumption); (focus (repeat (first | exact xr _ | assumption | (apply xt; assumption)))); done) | (simp; done))); rintro e w25 ⟨rfl, hx25⟩; (try simp only []); (try simp only [SS, Nat.reduceAdd])))
               ((with_reducible apply l_assign); (focus (first | (simp only [EE]; done) | (simp only [EE]; exact rfl) | exact rfl)); (try simp only [SS, Nat.reduceAdd]))
               ((with_reducible apply l_assign); (focus (first | (simp only [EE]; done) | (simp only [EE]; exact rfl) | exact rfl)); (try simp only [SS, Nat.reduceAdd]))
               (with_reducible apply wpList_nil))
            | ((fail_if_success (with_reducible apply no_region)); (fail_if_success (with_reducible apply no_list)); (fail_if_success (with_reducible apply no_oper)); (fail_if_success (with_reducible apply no_par)); (fail_if_success (with_reducible apply no_loop)); go_step))
      go_ret2
      refine ⟨?_, (by (focus (repeat (first | exact xr _ | assumption | (apply xt; assumption)))))⟩
      simp_all [BetterN]
end Go.Proofs.YtdopillligfdiaaDoor
