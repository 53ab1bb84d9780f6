/- Contracts: the rows of numbers. -/
import Derived.Test.YtdopillligfdiaaS1
namespace Go.Proofs.Ytdopillligfdiaa
set_option linter.unusedSimpArgs false
set_option linter.unusedVariables false
open Go.RowKit
set_option maxRecDepth 100000
set_option maxHeartbeats 4000000

theorem rows_any (s : Ser) (a b : Int) (w : World) (hok : seriesFaultN s = 0) (h0 : 0 ≤ a) (h1 : a ≤ b) (h2 : b ≤ 4000000000000000000) (h3 : (rowsL s (s.first + a % sizeN s) (b - a)).length ≤ 100000) :
    Calls Try.prog 24 #[s.v, .int .i64 a, .int .i64 b] w fun e w' => ∃ v, e = .returned v ∧ SlR w' 2 v ((rowsL s (s.first + a % sizeN s) (b - a)).map Gp.cells) ∧ Ext w w' := by
  have hs := series_ok s hok
  have hsz := sizeN_bd s hok
  have hss : sizeN s = s.last - s.first + 1 := rfl
  go_enter Try.func24, Try.ntmps24
  repeat' (
      first
        | ((with_reducible apply wp_seq_k); intro K hK)
        | (simp only [Exit.then, Exit.inBlock, ↓reduceIte, Nat.reduceEqDiff])
        | with_reducible apply wp_block
        | with_reducible apply wp_skip
        | with_reducible apply wp_exit
        | ((with_reducible apply wp_cond_true); (focus exact rfl))
        | ((with_reducible apply wp_cond_false); (focus exact rfl))
        | (((with_reducible apply wp_cond_split); (focus exact rfl)) <;> intro hb <;> (try simp only [bne_iff_ne, ne_eq, bne_eq_false_iff_eq, beq_iff_eq, beq_eq_false_iff_ne, decide_eq_true_eq, decide_eq_false_iff_not, Bool.not_eq_true', Bool.not_eq_false', Bool.and_eq_true, Bool.or_eq_true, Bool.and_eq_false_iff, Bool.or_eq_false_iff, Int.not_lt, Int.not_le, Bool.not_eq_true, Bool.not_eq_false] at hb) <;> (try (have hbl := And.left hb; have hbr := And.right hb)) <;> (try (have hbll := And.left hbl; have hblr := And.right hbl)) <;> (try first | contradiction | exact (bff hb (by assumption)).elim | exact (bft hb (by assumption)).elim | (exfalso; omega)))
        | ((with_reducible apply (wp_region_lit (id := 0)))
           ((with_reducible apply l_boxN); (focus exact rfl); intro g3 w3 hb3 hx3 hg3; (try simp only [SS, Nat.reduceAdd]))
           ((with_reducible apply l_assign); (focus (first | (simp only [EE]; done) | (simp only [EE]; exact rfl) | exact rfl)); (try simp only [SS, Nat.reduceAdd]))
           (with_reducible apply wpList_nil))
        | ((with_reducible apply (wp_region_lit (id := 1)))
           ((with_reducible apply l_assign); (focus (first | (simp only [EE]; done) | (simp only [EE]; exact rfl) | exact rfl)); (try simp only [SS, Nat.reduceAdd]))
           (with_reducible apply wpList_nil))
        | ((with_reducible apply (wp_region_lit (id := 2)))
           ((with_reducible apply l_move); (focus (first | (simp only [EE]; done) | (simp only [EE]; exact rfl) | exact rfl)); (try simp only [SS, Nat.reduceAdd]))
           ((with_reducible apply l_move); (focus (first | (simp only [EE]; done) | (simp only [EE]; exact rfl) | exact rfl)); (try simp only [SS, Nat.reduceAdd]))
           ((with_reducible apply l_lss); (focus exact rfl); (focus exact rfl); (try simp only [SS, Nat.reduceAdd]))
           (with_reducible apply wpList_nil))
        | ((with_reducible apply (wp_region_lit (id := 3)))
           ((with_reducible apply l_loadN); (focus exact rfl); (focus (first | assumption | ((first | (apply rb; assumption) | (apply rx; assumption)); (focus (repeat (first | exact xr _ | assumption | (apply xt; assumption))))))); (focus exact rfl); (try simp only [SS, Nat.reduceAdd]))
           ((with_reducible apply l_move); (focus (first | (simp only [EE]; done) | (simp only [EE]; exact rfl) | exact rfl)); (try simp only [SS, Nat.reduceAdd]))
           ((with_reducible apply l_enter); (focus (first | (simp only [EE]; done) | (simp only [EE]; exact rfl) | exact rfl)); first | ((with_reducible refine (numberAt_any _ _ _ ?_ ?_ ?_).mono ?_); (focus (first | assumption | exact rfl | omega | simp; done)); (focus (first | assumption | exact rfl | omega | simp; done)); (focus (first | assumption | exact rfl | omega | simp; done)); rintro e w15 ⟨rfl, hx15⟩; (try simp only []); (try simp only [SS, Nat.reduceAdd])))
           ((with_reducible apply l_assign); (focus (first | (simp only [EE]; done) | (simp only [EE]; exact rfl) | exact rfl)); (try simp only [SS, Nat.reduceAdd]))
           (with_reducible apply wpList_nil))
        | ((with_reducible apply (wp_region_lit (id := 4)))
           ((with_reducible apply l_move); (focus (first | (simp only [EE]; done) | (simp only [EE]; exact rfl) | exact rfl)); (try simp only [SS, Nat.reduceAdd]))
           ((with_reducible apply l_move); (focus (first | (simp only [EE]; done) | (simp only [EE]; exact rfl) | exact rfl)); (try simp only [SS, Nat.reduceAdd]))
           ((with_reducible apply l_sub); (focus exact rfl); (focus exact rfl); (focus (first | (apply IntWalk.i64_in; omega) | exact IntWalk.i64_left _)); (try simp only [SS, Nat.reduceAdd]))
           ((with_reducible apply l_fieldAddr); (focus exact rfl); (try simp only [SS, Nat.reduceAdd]))
           ((with_reducible apply l_load1); (focus exact rfl); (focus (first | assumption | ((apply cx); (focus assumption); (focus (repeat (first | exact xr _ | assumption | (apply xt; assumption)))); done) | ((first | (apply cb; assumption) | (apply c0; assumption) | (apply cr; assumption) | (apply cp; assumption)); (focus (repeat (first | exact xr _ | assumption | (apply xt; assumption)))); exact rfl))); (try simp only [SS, Nat.reduceAdd]))
           ((with_reducible apply l_move); (focus (first | (simp only [EE]; done) | (simp only [EE]; exact rfl) | exact rfl)); (try simp only [SS, Nat.reduceAdd]))
           ((with_reducible apply l_sub); (focus exact rfl); (focus exact rfl); (focus (first | (apply IntWalk.i64_in; omega) | exact IntWalk.i64_left _)); (try simp only [SS, Nat.reduceAdd]))
           ((with_reducible apply l_add); (focus exact rfl); (focus exact rfl); (focus (first | (apply IntWalk.i64_in; omega) | exact IntWalk.i64_left _)); (try simp only [SS, Nat.reduceAdd]))
           ((with_reducible apply l_min); (focus exact rfl); (focus exact rfl); (try simp only [SS, Nat.reduceAdd]))
           ((with_reducible apply l_assign); (focus (first | (simp only [EE]; done) | (simp only [EE]; exact rfl) | exact rfl)); (try simp only [SS, Nat.reduceAdd]))
           (with_reducible apply wpList_nil))
        | ((with_reducible apply (wp_region_lit (id := 5)))
           ((with_reducible apply l_move); (focus (first | (simp only [EE]; done) | (simp only [EE]; exact rfl) | exact rfl)); (try simp only [SS, Nat.reduceAdd]))
           ((with_reducible apply l_move); (focus (first | (simp only [EE]; done) | (simp only [EE]; exact rfl) | exact rfl)); (try simp only [SS, Nat.reduceAdd]))
           ((with_reducible apply l_move); (focus (first | (simp only [EE]; done) | (simp only [EE]; exact rfl) | exact rfl)); (try simp only [SS, Nat.reduceAdd]))
           ((with_reducible apply l_move); (focus (first | (simp only [EE]; done) | (simp only [EE]; exact rfl) | exact rfl)); (try simp only [SS, Nat.reduceAdd]))
           ((with_reducible apply l_add); (focus exact rfl); (focus exact rfl); (focus (first | (apply IntWalk.i64_in; omega) | exact IntWalk.i64_left _)); (try simp only [SS, Nat.reduceAdd]))
           ((with_reducible apply l_sub); (focus exact rfl); (focus exact rfl); (focus (first | (apply IntWalk.i64_in; omega) | exact IntWalk.i64_left _)); (try simp only [SS, Nat.reduceAdd]))
           ((with_reducible apply l_build); (focus (first | (simp only [EE]; done) | (simp only [EE]; exact rfl) | exact rfl)); (focus exact rfl); (try simp only [SS, SB, Nat.reduceAdd]))
           ((with_reducible apply (l_buildSlice (xs := [(.tmp 31)]))); (focus exact rfl); (focus exact rfl); (focus (first | (simp only [EE]; done) | (simp only [EE]; exact rfl) | exact rfl)); (focus exact rfl); (focus exact rfl); (focus exact rfl); intro g32 w32 hb32 hx32 hg32; (try simp only [SB] at hb32); (try simp only [SS, Nat.reduceAdd]))
           ((with_reducible apply l_append1); (focus (first | (simp only [EE]; done) | (simp only [EE]; exact rfl) | exact rfl)); (focus (first | assumption | (apply Own.blk1; (focus assumption); (focus (first | assumption | omega)); (focus exact rfl)) | ((apply Own.ext); (focus assumption); (focus (repeat (first | exact xr _ | assumption | (apply xt; assumption))))))); (focus exact rfl); (focus (first | assumption | ((first | (apply rb; assumption) | (apply rx; assumption)); (focus (repeat (first | exact xr _ | assumption | (apply xt; assumption))))))); (focus exact rfl); (focus (first | ((apply Ext.sizeOf); (focus (repeat (first | exact xr _ | assumption | (apply xt; assumption)))); done) | omega)); (focus (first | omega | (simp only [List.length_map, List.length_append, List.length_cons, List.length_nil]; omega) | (simp; omega) | (simp; done))); (focus decide); intro v33 w33 ho33 hb33; (try simp only [SB] at ho33); (try simp only [SS, Nat.reduceAdd]))
           ((with_reducible apply l_assign); (focus (first | (simp only [EE]; done) | (simp only [EE]; exact rfl) | exact rfl)); (try simp only [SS, Nat.reduceAdd]))
           (with_reducible apply wpList_nil))
        | ((with_reducible apply (wp_region_lit (id := 6)))
           ((with_reducible apply l_move); (focus (first | (simp only [EE]; done) | (simp only [EE]; exact rfl) | exact rfl)); (try simp only [SS, Nat.reduceAdd]))
           ((with_reducible apply l_move); (focus (first | (simp only [EE]; done) | (simp only [EE]; exact rfl) | exact rfl)); (try simp only [SS, Nat.reduceAdd]))
           ((with_reducible apply l_add); (focus exact rfl); (focus exact rfl); (focus (first | (apply IntWalk.i64_in; omega) | exact IntWalk.i64_left _)); (try simp only [SS, Nat.reduceAdd]))
           ((with_reducible apply l_assign); (focus (first | (simp only [EE]; done) | (simp only [EE]; exact rfl) | exact rfl)); (try simp only [SS, Nat.reduceAdd]))
           (with_reducible apply wpList_nil))
        | ((with_reducible apply (wp_region_lit (id := 7)))
           ((with_reducible apply l_move); (focus (first | (simp only [EE]; done) | (simp only [EE]; exact rfl) | exact rfl)); (try simp only [SS, Nat.reduceAdd]))
           ((with_reducible apply l_assign); (focus (first | (simp only [EE]; done) | (simp only [EE]; exact rfl) | exact rfl)); (try simp only [SS, Nat.reduceAdd]))
           (with_reducible apply wpList_nil))
        | ((fail_if_success (with_reducible apply no_region)); (fail_if_success (with_reducible apply no_list)); (fail_if_success (with_reducible apply no_oper)); (fail_if_success (with_reducible apply no_par)); (fail_if_success (with_reducible apply no_loop)); go_step))
  go_loopw [1, 7] (fun c v wr => ∃ (cur : Int) (done : List Gp), c = .int .i64 cur ∧ a ≤ cur ∧ cur ≤ b ∧ Hid (done ++ rowsL s (s.first + cur % sizeN s) (b - cur) = rowsL s (s.first + a % sizeN s) (b - a)) ∧ Own wr w3.heap.size 42 2 v (done.map Gp.cells) ∧ Ext w3 wr) (fun c _ _ => (b - intOf c).toNat)
  case atStart => exact ⟨a, [], rfl, by omega, by omega, rfl, Own.nil _ _ _ _, Ext.refl _⟩
  case round =>
    obtain ⟨cur, done, rfl, hc1, hc2, hd, hown, hx⟩ := hrel
    by_cases hlt : cur < b
    · have hm0 := Int.emod_nonneg cur (show sizeN s ≠ 0 by omega)
      have hm1 := Int.emod_lt_of_pos cur (show 0 < sizeN s by omega)
      have hst := Lib.hid (rowsL_step s (by omega) cur b (by omega) hlt)
      have hlen : (done.map Gp.cells).length + 1 ≤ 1000000000 := by
        have h4 := congrArg List.length hd.out
        rw [hst.out] at h4
        simp at h4 ⊢
        omega
      repeat' (
          first
            | ((with_reducible apply wp_seq_k); intro K hK)
            | (simp only [Exit.then, Exit.inBlock, ↓reduceIte, Nat.reduceEqDiff])
            | with_reducible apply wp_block
            | with_reducible apply wp_skip
            | with_reducible apply wp_exit
            | ((with_reducible apply wp_cond_true); (focus exact rfl))
            | ((with_reducible apply wp_cond_false); (focus exact rfl))
            | (((with_reducible apply wp_cond_split); (focus exact rfl)) <;> intro hb <;> (try simp only [bne_iff_ne, ne_eq, bne_eq_false_iff_eq, beq_iff_eq, beq_eq_false_iff_ne, decide_eq_true_eq, decide_eq_false_iff_not, Bool.not_eq_true', Bool.not_eq_false', Bool.and_eq_true, Bool.or_eq_true, Bool.and_eq_false_iff, Bool.or_eq_false_iff, Int.not_lt, Int.not_le, Bool.not_eq_true, Bool.not_eq_false] at hb) <;> (try (have hbl := And.left hb; have hbr := And.right hb)) <;> (try (have hbll := And.left hbl; have hblr := And.right hbl)) <;> (try first | contradiction | exact (bff hb (by assumption)).elim | exact (bft hb (by assumption)).elim | (exfalso; omega)))
            | ((with_reducible apply (wp_region_lit (id := 0)))
               ((with_reducible apply l_boxN); (focus exact rfl); intro g3 w3 hb3 hx3 hg3; (try simp only [SS, Nat.reduceAdd]))
               ((with_reducible apply l_assign); (focus (first | (simp only [EE]; done) | (simp only [EE]; exact rfl) | exact rfl)); (try simp only [SS, Nat.reduceAdd]))
               (with_reducible apply wpList_nil))
            | ((with_reducible apply (wp_region_lit (id := 1)))
               ((with_reducible apply l_assign); (focus (first | (simp only [EE]; done) | (simp only [EE]; exact rfl) | exact rfl)); (try simp only [SS, Nat.reduceAdd]))
               (with_reducible apply wpList_nil))
            | ((with_reducible apply (wp_region_lit (id := 2)))
               ((with_reducible apply l_move); (focus (first | (simp only [EE]; done) | (simp only [EE]; exact rfl) | exact rfl)); (try simp only [SS, Nat.reduceAdd]))
               ((with_reducible apply l_move); (focus (first | (simp only [EE]; done) | (simp only [EE]; exact rfl) | exact rfl)); (try simp only [SS, Nat.reduceAdd]))
               ((with_reducible apply l_lss); (focus exact rfl); (focus exact rfl); (try simp only [SS, Nat.reduceAdd]))
               (with_reducible apply wpList_nil))
            | ((with_reducible apply (wp_region_lit (id := 3)))
               ((with_reducible apply l_loadN); (focus exact rfl); (focus (first | assumption | ((first | (apply rb; assumption) | (apply rx; assumption)); (focus (repeat (first | exact xr _ | assumption | (apply xt; assumption))))))); (focus exact rfl); (try simp only [SS, Nat.reduceAdd]))
               ((with_reducible apply l_move); (focus (first | (simp only [EE]; done) | (simp only [EE]; exact rfl) | exact rfl)); (try simp only [SS, Nat.reduceAdd]))
               ((with_reducible apply l_enter); (focus (first | (simp only [EE]; done) | (simp only [EE]; exact rfl) | exact rfl)); first | ((with_reducible refine (numberAt_any _ _ _ ?_ ?_ ?_).mono ?_); (focus (first | assumption | exact rfl | omega | simp; done)); (focus (first | assumption | exact rfl | omega | simp; done)); (focus (first | assumption | exact rfl | omega | simp; done)); rintro e w15 ⟨rfl, hx15⟩; (try simp only []); (try simp only [SS, Nat.reduceAdd])))
               ((with_reducible apply l_assign); (focus (first | (simp only [EE]; done) | (simp only [EE]; exact rfl) | exact rfl)); (try simp only [SS, Nat.reduceAdd]))
               (with_reducible apply wpList_nil))
            | ((with_reducible apply (wp_region_lit (id := 4)))
               ((with_reducible apply l_move); (focus (first | (simp only [EE]; done) | (simp only [EE]; exact rfl) | exact rfl)); (try simp only [SS, Nat.reduceAdd]))
               ((with_reducible apply l_move); (focus (first | (simp only [EE]; done) | (simp only [EE]; exact rfl) | exact rfl)); (try simp only [SS, Nat.reduceAdd]))
               ((with_reducible apply l_sub); (focus exact rfl); (focus exact rfl); (focus (first | (apply IntWalk.i64_in; omega) | exact IntWalk.i64_left _)); (try simp only [SS, Nat.reduceAdd]))
               ((with_reducible apply l_fieldAddr); (focus exact rfl); (try simp only [SS, Nat.reduceAdd]))
               ((with_reducible apply l_load1); (focus exact rfl); (focus (first | assumption | ((apply cx); (focus assumption); (focus (repeat (first | exact xr _ | assumption | (apply xt; assumption)))); done) | ((first | (apply cb; assumption) | (apply c0; assumption) | (apply cr; assumption) | (apply cp; assumption)); (focus (repeat (first | exact xr _ | assumption | (apply xt; assumption)))); exact rfl))); (try simp only [SS, Nat.reduceAdd]))
               ((with_reducible apply l_move); (focus (first | (simp only [EE]; done) | (simp only [EE]; exact rfl) | exact rfl)); (try simp only [SS, Nat.reduceAdd]))
               ((with_reducible apply l_sub); (focus exact rfl); (focus exact rfl); (focus (first | (apply IntWalk.i64_in; omega) | exact IntWalk.i64_left _)); (try simp only [SS, Nat.reduceAdd]))
               ((with_reducible apply l_add); (focus exact rfl); (focus exact rfl); (focus (first | (apply IntWalk.i64_in; omega) | exact IntWalk.i64_left _)); (try simp only [SS, Nat.reduceAdd]))
               ((with_reducible apply l_min); (focus exact rfl); (focus exact rfl); (try simp only [SS, Nat.reduceAdd]))
               ((with_reducible apply l_assign); (focus (first | (simp only [EE]; done) | (simp only [EE]; exact rfl) | exact rfl)); (try simp only [SS, Nat.reduceAdd]))
               (with_reducible apply wpList_nil))
            | ((with_reducible apply (wp_region_lit (id := 5)))
               ((with_reducible apply l_move); (focus (first | (simp only [EE]; done) | (simp only [EE]; exact rfl) | exact rfl)); (try simp only [SS, Nat.reduceAdd]))
               ((with_reducible apply l_move); (focus (first | (simp only [EE]; done) | (simp only [EE]; exact rfl) | exact rfl)); (try simp only [SS, Nat.reduceAdd]))
               ((with_reducible apply l_move); (focus (first | (simp only [EE]; done) | (simp only [EE]; exact rfl) | exact rfl)); (try simp only [SS, Nat.reduceAdd]))
               ((with_reducible apply l_move); (focus (first | (simp only [EE]; done) | (simp only [EE]; exact rfl) | exact rfl)); (try simp only [SS, Nat.reduceAdd]))
               ((with_reducible apply l_add); (focus exact rfl); (focus exact rfl); (focus (first | (apply IntWalk.i64_in; omega) | exact IntWalk.i64_left _)); (try simp only [SS, Nat.reduceAdd]))
               ((with_reducible apply l_sub); (focus exact rfl); (focus exact rfl); (focus (first | (apply IntWalk.i64_in; omega) | exact IntWalk.i64_left _)); (try simp only [SS, Nat.reduceAdd]))
               ((with_reducible apply l_build); (focus (first | (simp only [EE]; done) | (simp only [EE]; exact rfl) | exact rfl)); (focus exact rfl); (try simp only [SS, SB, Nat.reduceAdd]))
               ((with_reducible apply (l_buildSlice (xs := [(.tmp 31)]))); (focus exact rfl); (focus exact rfl); (focus (first | (simp only [EE]; done) | (simp only [EE]; exact rfl) | exact rfl)); (focus exact rfl); (focus exact rfl); (focus exact rfl); intro g32 w32 hb32 hx32 hg32; (try simp only [SB] at hb32); (try simp only [SS, Nat.reduceAdd]))
               ((with_reducible apply l_append1); (focus (first | (simp only [EE]; done) | (simp only [EE]; exact rfl) | exact rfl)); (focus (first | assumption | (apply Own.blk1; (focus assumption); (focus (first | assumption | omega)); (focus exact rfl)) | ((apply Own.ext); (focus assumption); (focus (repeat (first | exact xr _ | assumption | (apply xt; assumption))))))); (focus exact rfl); (focus (first | assumption | ((first | (apply rb; assumption) | (apply rx; assumption)); (focus (repeat (first | exact xr _ | assumption | (apply xt; assumption))))))); (focus exact rfl); (focus (first | ((apply Ext.sizeOf); (focus (repeat (first | exact xr _ | assumption | (apply xt; assumption)))); done) | omega)); (focus (first | omega | (simp only [List.length_map, List.length_append, List.length_cons, List.length_nil]; omega) | (simp; omega) | (simp; done))); (focus decide); intro v33 w33 ho33 hb33; (try simp only [SB] at ho33); (try simp only [SS, Nat.reduceAdd]))
               ((with_reducible apply l_assign); (focus (first | (simp only [EE]; done) | (simp only [EE]; exact rfl) | exact rfl)); (try simp only [SS, Nat.reduceAdd]))
               (with_reducible apply wpList_nil))
            | ((with_reducible apply (wp_region_lit (id := 6)))
               ((with_reducible apply l_move); (focus (first | (simp only [EE]; done) | (simp only [EE]; exact rfl) | exact rfl)); (try simp only [SS, Nat.reduceAdd]))
               ((with_reducible apply l_move); (focus (first | (simp only [EE]; done) | (simp only [EE]; exact rfl) | exact rfl)); (try simp only [SS, Nat.reduceAdd]))
               ((with_reducible apply l_add); (focus exact rfl); (focus exact rfl); (focus (first | (apply IntWalk.i64_in; omega) | exact IntWalk.i64_left _)); (try simp only [SS, Nat.reduceAdd]))
               ((with_reducible apply l_assign); (focus (first | (simp only [EE]; done) | (simp only [EE]; exact rfl) | exact rfl)); (try simp only [SS, Nat.reduceAdd]))
               (with_reducible apply wpList_nil))
            | ((with_reducible apply (wp_region_lit (id := 7)))
               ((with_reducible apply l_move); (focus (first | (simp only [EE]; done) | (simp only [EE]; exact rfl) | exact rfl)); (try simp only [SS, Nat.reduceAdd]))
               ((with_reducible apply l_assign); (focus (first | (simp only [EE]; done) | (simp only [EE]; exact rfl) | exact rfl)); (try simp only [SS, Nat.reduceAdd]))
               (with_reducible apply wpList_nil))
            | ((fail_if_success (with_reducible apply no_region)); (fail_if_success (with_reducible apply no_list)); (fail_if_success (with_reducible apply no_oper)); (fail_if_success (with_reducible apply no_par)); (fail_if_success (with_reducible apply no_loop)); go_step))
      go_roundw
      case rel =>
        refine ⟨_, done ++ [⟨s.first + cur % sizeN s, s.first + cur % sizeN s + min (b - cur) (s.last - (s.first + cur % sizeN s) + 1) - 1⟩], rfl, by omega, by omega, ?_, ?_, (by (focus (first | ((repeat (first | exact xr _ | assumption | (apply xt; assumption))); done) | (repeat (first | exact xr _ | assumption | ((apply xz); (focus assumption); (focus ((repeat (first | exact xr _ | assumption | (apply xt; assumption))); done))) | ((apply xtb); assumption))))))⟩
        · have h5 := hd.out
          rw [hst.out] at h5
          show _ = _
          rw [← h5]
          simp
        · rw [List.map_append]; exact ho33
      case measure => simp [intOf]; omega
    · repeat' (
          first
            | ((with_reducible apply wp_seq_k); intro K hK)
            | (simp only [Exit.then, Exit.inBlock, ↓reduceIte, Nat.reduceEqDiff])
            | with_reducible apply wp_block
            | with_reducible apply wp_skip
            | with_reducible apply wp_exit
            | ((with_reducible apply wp_cond_true); (focus exact rfl))
            | ((with_reducible apply wp_cond_false); (focus exact rfl))
            | (((with_reducible apply wp_cond_split); (focus exact rfl)) <;> intro hb <;> (try simp only [bne_iff_ne, ne_eq, bne_eq_false_iff_eq, beq_iff_eq, beq_eq_false_iff_ne, decide_eq_true_eq, decide_eq_false_iff_not, Bool.not_eq_true', Bool.not_eq_false', Bool.and_eq_true, Bool.or_eq_true, Bool.and_eq_false_iff, Bool.or_eq_false_iff, Int.not_lt, Int.not_le, Bool.not_eq_true, Bool.not_eq_false] at hb) <;> (try (have hbl := And.left hb; have hbr := And.right hb)) <;> (try (have hbll := And.left hbl; have hblr := And.right hbl)) <;> (try first | contradiction | exact (bff hb (by assumption)).elim | exact (bft hb (by assumption)).elim | (exfalso; omega)))
            | ((with_reducible apply (wp_region_lit (id := 0)))
               ((with_reducible apply l_boxN); (focus exact rfl); intro g3 w3 hb3 hx3 hg3; (try simp only [SS, Nat.reduceAdd]))
               ((with_reducible apply l_assign); (focus (first | (simp only [EE]; done) | (simp only [EE]; exact rfl) | exact rfl)); (try simp only [SS, Nat.reduceAdd]))
               (with_reducible apply wpList_nil))
            | ((with_reducible apply (wp_region_lit (id := 1)))
               ((with_reducible apply l_assign); (focus (first | (simp only [EE]; done) | (simp only [EE]; exact rfl) | exact rfl)); (try simp only [SS, Nat.reduceAdd]))
               (with_reducible apply wpList_nil))
            | ((with_reducible apply (wp_region_lit (id := 2)))
               ((with_reducible apply l_move); (focus (first | (simp only [EE]; done) | (simp only [EE]; exact rfl) | exact rfl)); (try simp only [SS, Nat.reduceAdd]))
               ((with_reducible apply l_move); (focus (first | (simp only [EE]; done) | (simp only [EE]; exact rfl) | exact rfl)); (try simp only [SS, Nat.reduceAdd]))
               ((with_reducible apply l_lss); (focus exact rfl); (focus exact rfl); (try simp only [SS, Nat.reduceAdd]))
               (with_reducible apply wpList_nil))
            | ((with_reducible apply (wp_region_lit (id := 3)))
               ((with_reducible apply l_loadN); (focus exact rfl); (focus (first | assumption | ((first | (apply rb; assumption) | (apply rx; assumption)); (focus (repeat (first | exact xr _ | assumption | (apply xt; assumption))))))); (focus exact rfl); (try simp only [SS, Nat.reduceAdd]))
               ((with_reducible apply l_move); (focus (first | (simp only [EE]; done) | (simp only [EE]; exact rfl) | exact rfl)); (try simp only [SS, Nat.reduceAdd]))
               ((with_reducible apply l_enter); (focus (first | (simp only [EE]; done) | (simp only [EE]; exact rfl) | exact rfl)); first | ((with_reducible refine (numberAt_any _ _ _ ?_ ?_ ?_).mono ?_); (focus (first | assumption | exact rfl | omega | simp; done)); (focus (first | assumption | exact rfl | omega | simp; done)); (focus (first | assumption | exact rfl | omega | simp; done)); rintro e w15 ⟨rfl, hx15⟩; (try simp only []); (try simp only [SS, Nat.reduceAdd])))
               ((with_reducible apply l_assign); (focus (first | (simp only [EE]; done) | (simp only [EE]; exact rfl) | exact rfl)); (try simp only [SS, Nat.reduceAdd]))
               (with_reducible apply wpList_nil))
            | ((with_reducible apply (wp_region_lit (id := 4)))
               ((with_reducible apply l_move); (focus (first | (simp only [EE]; done) | (simp only [EE]; exact rfl) | exact rfl)); (try simp only [SS, Nat.reduceAdd]))
               ((with_reducible apply l_move); (focus (first | (simp only [EE]; done) | (simp only [EE]; exact rfl) | exact rfl)); (try simp only [SS, Nat.reduceAdd]))
               ((with_reducible apply l_sub); (focus exact rfl); (focus exact rfl); (focus (first | (apply IntWalk.i64_in; omega) | exact IntWalk.i64_left _)); (try simp only [SS, Nat.reduceAdd]))
               ((with_reducible apply l_fieldAddr); (focus exact rfl); (try simp only [SS, Nat.reduceAdd]))
               ((with_reducible apply l_load1); (focus exact rfl); (focus (first | assumption | ((apply cx); (focus assumption); (focus (repeat (first | exact xr _ | assumption | (apply xt; assumption)))); done) | ((first | (apply cb; assumption) | (apply c0; assumption) | (apply cr; assumption) | (apply cp; assumption)); (focus (repeat (first | exact xr _ | assumption | (apply xt; assumption)))); exact rfl))); (try simp only [SS, Nat.reduceAdd]))
               ((with_reducible apply l_move); (focus (first | (simp only [EE]; done) | (simp only [EE]; exact rfl) | exact rfl)); (try simp only [SS, Nat.reduceAdd]))
               ((with_reducible apply l_sub); (focus exact rfl); (focus exact rfl); (focus (first | (apply IntWalk.i64_in; omega) | exact IntWalk.i64_left _)); (try simp only [SS, Nat.reduceAdd]))
               ((with_reducible apply l_add); (focus exact rfl); (focus exact rfl); (focus (first | (apply IntWalk.i64_in; omega) | exact IntWalk.i64_left _)); (try simp only [SS, Nat.reduceAdd]))
               ((with_reducible apply l_min); (focus exact rfl); (focus exact rfl); (try simp only [SS, Nat.reduceAdd]))
               ((with_reducible apply l_assign); (focus (first | (simp only [EE]; done) | (simp only [EE]; exact rfl) | exact rfl)); (try simp only [SS, Nat.reduceAdd]))
               (with_reducible apply wpList_nil))
            | ((with_reducible apply (wp_region_lit (id := 5)))
               ((with_reducible apply l_move); (focus (first | (simp only [EE]; done) | (simp only [EE]; exact rfl) | exact rfl)); (try simp only [SS, Nat.reduceAdd]))
               ((with_reducible apply l_move); (focus (first | (simp only [EE]; done) | (simp only [EE]; exact rfl) | exact rfl)); (try simp only [SS, Nat.reduceAdd]))
               ((with_reducible apply l_move); (focus (first | (simp only [EE]; done) | (simp only [EE]; exact rfl) | exact rfl)); (try simp only [SS, Nat.reduceAdd]))
               ((with_reducible apply l_move); (focus (first | (simp only [EE]; done) | (simp only [EE]; exact rfl) | exact rfl)); (try simp only [SS, Nat.reduceAdd]))
               ((with_reducible apply l_add); (focus exact rfl); (focus exact rfl); (focus (first | (apply IntWalk.i64_in; omega) | exact IntWalk.i64_left _)); (try simp only [SS, Nat.reduceAdd]))
               ((with_reducible apply l_sub); (focus exact rfl); (focus exact rfl); (focus (first | (apply IntWalk.i64_in; omega) | exact IntWalk.i64_left _)); (try simp only [SS, Nat.reduceAdd]))
               ((with_reducible apply l_build); (focus (first | (simp only [EE]; done) | (simp only [EE]; exact rfl) | exact rfl)); (focus exact rfl); (try simp only [SS, SB, Nat.reduceAdd]))
               ((with_reducible apply (l_buildSlice (xs := [(.tmp 31)]))); (focus exact rfl); (focus exact rfl); (focus (first | (simp only [EE]; done) | (simp only [EE]; exact rfl) | exact rfl)); (focus exact rfl); (focus exact rfl); (focus exact rfl); intro g32 w32 hb32 hx32 hg32; (try simp only [SB] at hb32); (try simp only [SS, Nat.reduceAdd]))
               ((with_reducible apply l_append1); (focus (first | (simp only [EE]; done) | (simp only [EE]; exact rfl) | exact rfl)); (focus (first | assumption | (apply Own.blk1; (focus assumption); (focus (first | assumption | omega)); (focus exact rfl)) | ((apply Own.ext); (focus assumption); (focus (repeat (first | exact xr _ | assumption | (apply xt; assumption))))))); (focus exact rfl); (focus (first | assumption | ((first | (apply rb; assumption) | (apply rx; assumption)); (focus (repeat (first | exact xr _ | assumption | (apply xt; assumption))))))); (focus exact rfl); (focus (first | ((apply Ext.sizeOf); (focus (repeat (first | exact xr _ | assumption | (apply xt; assumption)))); done) | omega)); (focus (first | omega | (simp only [List.length_map, List.length_append, List.length_cons, List.length_nil]; omega) | (simp; omega) | (simp; done))); (focus decide); intro v33 w33 ho33 hb33; (try simp only [SB] at ho33); (try simp only [SS, Nat.reduceAdd]))
               ((with_reducible apply l_assign); (focus (first | (simp only [EE]; done) | (simp only [EE]; exact rfl) | exact rfl)); (try simp only [SS, Nat.reduceAdd]))
               (with_reducible apply wpList_nil))
            | ((with_reducible apply (wp_region_lit (id := 6)))
               ((with_reducible apply l_move); (focus (first | (simp only [EE]; done) | (simp only [EE]; exact rfl) | exact rfl)); (try simp only [SS, Nat.reduceAdd]))
               ((with_reducible apply l_move); (focus (first | (simp only [EE]; done) | (simp only [EE]; exact rfl) | exact rfl)); (try simp only [SS, Nat.reduceAdd]))
               ((with_reducible apply l_add); (focus exact rfl); (focus exact rfl); (focus (first | (apply IntWalk.i64_in; omega) | exact IntWalk.i64_left _)); (try simp only [SS, Nat.reduceAdd]))
               ((with_reducible apply l_assign); (focus (first | (simp only [EE]; done) | (simp only [EE]; exact rfl) | exact rfl)); (try simp only [SS, Nat.reduceAdd]))
               (with_reducible apply wpList_nil))
            | ((with_reducible apply (wp_region_lit (id := 7)))
               ((with_reducible apply l_move); (focus (first | (simp only [EE]; done) | (simp only [EE]; exact rfl) | exact rfl)); (try simp only [SS, Nat.reduceAdd]))
               ((with_reducible apply l_assign); (focus (first | (simp only [EE]; done) | (simp only [EE]; exact rfl) | exact rfl)); (try simp only [SS, Nat.reduceAdd]))
               (with_reducible apply wpList_nil))
            | ((fail_if_success (with_reducible apply no_region)); (fail_if_success (with_reducible apply no_list)); (fail_if_success (with_reducible apply no_oper)); (fail_if_success (with_reducible apply no_par)); (fail_if_success (with_reducible apply no_loop)); go_step))
      go_ret
      refine ⟨_, rfl, ?_, (by (focus (repeat (first | exact xr _ | assumption | (apply xt; assumption)))))⟩
      have h5 := hd.out
      rw [rowsL_nil s _ (b - cur) (by omega), List.append_nil] at h5
      rw [← h5]
      exact hown.slr
theorem gp_one (l : List Gp) : ∀ r ∈ l.map Gp.cells, ∀ y ∈ r, y.oneCell' = true := by
  intro r hr y hy
  obtain ⟨g, _, rfl⟩ := List.mem_map.1 hr
  simp only [Gp.cells, List.mem_cons, List.not_mem_nil, or_false] at hy
  rcases hy with rfl | rfl <;> rfl
theorem rows8_any (s : Ser) (hok : seriesFaultN s = 0) : ∀ (f : Nat) (a m : Int) (w : World), m.toNat ≤ f → s.first ≤ a → a ≤ s.last → 0 ≤ m → m ≤ 1000000000000000000 → (rowsL s a m).length ≤ 100000 →
    Calls Try.prog 32 #[s.v, .int .i64 a, .int .i64 m] w fun e w' => ∃ v, e = .returned v ∧ SlR w' 2 v ((rowsL s a m).map Gp.cells) ∧ Ext w w' := by
  have hs := series_ok s hok
  intro f
  induction f with
  | zero =>
    intro a m w hf ha hb hm _ _
    obtain rfl : m = 0 := by omega
    go_enter Try.func32, Try.ntmps32
    repeat' (
        first
          | ((with_reducible apply wp_seq_k); intro K hK)
          | (simp only [Exit.then, Exit.inBlock, ↓reduceIte, Nat.reduceEqDiff])
          | with_reducible apply wp_block
          | with_reducible apply wp_skip
          | with_reducible apply wp_exit
          | ((with_reducible apply wp_cond_true); (focus exact rfl))
          | ((with_reducible apply wp_cond_false); (focus exact rfl))
          | (((with_reducible apply wp_cond_split); (focus exact rfl)) <;> intro hb <;> (try simp only [bne_iff_ne, ne_eq, bne_eq_false_iff_eq, beq_iff_eq, beq_eq_false_iff_ne, decide_eq_true_eq, decide_eq_false_iff_not, Bool.not_eq_true', Bool.not_eq_false', Bool.and_eq_true, Bool.or_eq_true, Bool.and_eq_false_iff, Bool.or_eq_false_iff, Int.not_lt, Int.not_le, Bool.not_eq_true, Bool.not_eq_false] at hb) <;> (try (have hbl := And.left hb; have hbr := And.right hb)) <;> (try (have hbll := And.left hbl; have hblr := And.right hbl)) <;> (try first | contradiction | exact (bff hb (by assumption)).elim | exact (bft hb (by assumption)).elim | (exfalso; omega)))
          | ((with_reducible apply (wp_region_lit (id := 0)))
             ((with_reducible apply l_boxN); (focus exact rfl); intro g3 w3 hb3 hx3 hg3; (try simp only [SS, Nat.reduceAdd]))
             ((with_reducible apply l_assign); (focus (first | (simp only [EE]; done) | (simp only [EE]; exact rfl) | exact rfl)); (try simp only [SS, Nat.reduceAdd]))
             (with_reducible apply wpList_nil))
          | ((with_reducible apply (wp_region_lit (id := 1)))
             ((with_reducible apply l_move); (focus (first | (simp only [EE]; done) | (simp only [EE]; exact rfl) | exact rfl)); (try simp only [SS, Nat.reduceAdd]))
             ((with_reducible apply l_eql); (focus exact rfl); (focus exact rfl); (try simp only [SS, Nat.reduceAdd]))
             (with_reducible apply wpList_nil))
          | ((with_reducible apply (wp_region_lit (id := 2)))
             ((with_reducible apply l_assign); (focus (first | (simp only [EE]; done) | (simp only [EE]; exact rfl) | exact rfl)); (try simp only [SS, Nat.reduceAdd]))
             (with_reducible apply wpList_nil))
          | ((with_reducible apply (wp_region_lit (id := 3)))
             ((with_reducible apply l_fieldAddr); (focus exact rfl); (try simp only [SS, Nat.reduceAdd]))
             ((with_reducible apply l_load1); (focus exact rfl); (focus (first | assumption | ((apply cx); (focus assumption); (focus (repeat (first | exact xr _ | assumption | (apply xt; assumption)))); done) | ((first | (apply cb; assumption) | (apply c0; assumption) | (apply cr; assumption) | (apply cp; assumption)); (focus (repeat (first | exact xr _ | assumption | (apply xt; assumption)))); exact rfl))); (try simp only [SS, Nat.reduceAdd]))
             ((with_reducible apply l_move); (focus (first | (simp only [EE]; done) | (simp only [EE]; exact rfl) | exact rfl)); (try simp only [SS, Nat.reduceAdd]))
             ((with_reducible apply l_sub); (focus exact rfl); (focus exact rfl); (focus (first | (apply IntWalk.i64_in; omega) | exact IntWalk.i64_left _)); (try simp only [SS, Nat.reduceAdd]))
             ((with_reducible apply l_add); (focus exact rfl); (focus exact rfl); (focus (first | (apply IntWalk.i64_in; omega) | exact IntWalk.i64_left _)); (try simp only [SS, Nat.reduceAdd]))
             ((with_reducible apply l_assign); (focus (first | (simp only [EE]; done) | (simp only [EE]; exact rfl) | exact rfl)); (try simp only [SS, Nat.reduceAdd]))
             (with_reducible apply wpList_nil))
          | ((with_reducible apply (wp_region_lit (id := 4)))
             ((with_reducible apply l_move); (focus (first | (simp only [EE]; done) | (simp only [EE]; exact rfl) | exact rfl)); (try simp only [SS, Nat.reduceAdd]))
             ((with_reducible apply l_move); (focus (first | (simp only [EE]; done) | (simp only [EE]; exact rfl) | exact rfl)); (try simp only [SS, Nat.reduceAdd]))
             ((with_reducible apply l_gtr); (focus exact rfl); (focus exact rfl); (try simp only [SS, Nat.reduceAdd]))
             (with_reducible apply wpList_nil))
          | (((with_reducible apply (wp_region_tail (id := 5) 12)); (focus kernel_rfl); (focus kernel_rfl); (focus kernel_rfl); (focus exact of_decide_eq_true rfl); (focus exact rfl); simp only [List.take_succ_cons, List.take_zero])
             ((with_reducible apply p_move); (focus (first | (simp only [EE]; done) | (simp only [EE]; exact rfl) | exact rfl)); (try simp only [SS, Nat.reduceAdd]))
             ((with_reducible apply p_fieldAddr); (focus exact rfl); (try simp only [SS, Nat.reduceAdd]))
             ((with_reducible apply p_load1); (focus exact rfl); (focus (first | assumption | ((apply cx); (focus assumption); (focus (repeat (first | exact xr _ | assumption | (apply xt; assumption)))); done) | ((first | (apply cb; assumption) | (apply c0; assumption) | (apply cr; assumption) | (apply cp; assumption)); (focus (repeat (first | exact xr _ | assumption | (apply xt; assumption)))); exact rfl))); (try simp only [SS, Nat.reduceAdd]))
             ((with_reducible apply p_build); (focus (first | (simp only [EE]; done) | (simp only [EE]; exact rfl) | exact rfl)); (focus exact rfl); (try simp only [SS, SB, Nat.reduceAdd]))
             ((with_reducible apply (p_buildSlice (xs := [(.tmp 21)]))); (focus exact rfl); (focus exact rfl); (focus (first | (simp only [EE]; done) | (simp only [EE]; exact rfl) | exact rfl)); (focus exact rfl); (focus exact rfl); (focus exact rfl); intro g22; (try simp only [SS, Nat.reduceAdd]))
             ((with_reducible apply p_loadN); (focus exact rfl); (focus (first | assumption | ((first | (apply rb; assumption) | (apply rx; assumption)); (focus (repeat (first | exact xr _ | assumption | (apply xt; assumption))))))); (focus exact rfl); (try simp only [SS, Nat.reduceAdd]))
             ((with_reducible apply p_fieldAddr); (focus exact rfl); (try simp only [SS, Nat.reduceAdd]))
             ((with_reducible apply p_load1); (focus exact rfl); (focus (first | assumption | ((apply cx); (focus assumption); (focus (repeat (first | exact xr _ | assumption | (apply xt; assumption)))); done) | ((first | (apply cb; assumption) | (apply c0; assumption) | (apply cr; assumption) | (apply cp; assumption)); (focus (repeat (first | exact xr _ | assumption | (apply xt; assumption)))); exact rfl))); (try simp only [SS, Nat.reduceAdd]))
             ((with_reducible apply p_move); (focus (first | (simp only [EE]; done) | (simp only [EE]; exact rfl) | exact rfl)); (try simp only [SS, Nat.reduceAdd]))
             ((with_reducible apply p_move); (focus (first | (simp only [EE]; done) | (simp only [EE]; exact rfl) | exact rfl)); (try simp only [SS, Nat.reduceAdd]))
             ((with_reducible apply p_sub); (focus exact rfl); (focus exact rfl); (focus (first | (apply IntWalk.i64_in; omega) | exact IntWalk.i64_left _)); (try simp only [SS, Nat.reduceAdd]))
             ((with_reducible apply p_enter); (focus (first | (simp only [EE]; done) | (simp only [EE]; exact rfl) | exact rfl)); first | ((focus (intro w1 hw1; (with_reducible refine (ih).mono ?_);  rintro e w29 ⟨rfl, hx29⟩; exact ⟨rfl, hx29⟩)); (try simp only [SS, Nat.reduceAdd])))
             ((with_reducible apply par_nil); intro v5 hv5 hfs; have hb22 := (hfs _ (List.mem_of_getElem? (i := 4) rfl)).1; have hg22 := (hfs _ (List.mem_of_getElem? (i := 4) rfl)).2; (try simp only [SB] at hb22); (try clear hfs); simp only [tailQ, List.drop_succ_cons, List.drop_zero])
             ((with_reducible apply l_appendS); (focus (first | (simp only [EE]; done) | (simp only [EE]; exact rfl) | exact rfl)); (focus (first | assumption | (apply Own.blk1; (focus assumption); (focus (first | assumption | omega)); (focus exact rfl)) | ((apply Own.ext); (focus assumption); (focus (repeat (first | exact xr _ | assumption | (apply xt; assumption))))))); (focus (first | (simp only [EE]; done) | (simp only [EE]; exact rfl) | exact rfl)); (focus (first | assumption | ((apply SlR.ext); (focus assumption); (focus (repeat (first | exact xr _ | assumption | (apply xt; assumption))))))); (focus (first | assumption | exact gp_one _ | (intro r hr; simp at hr; grind))); (focus (first | ((apply Ext.sizeOf); (focus (repeat (first | exact xr _ | assumption | (apply xt; assumption)))); done) | omega)); (focus (first | omega | (simp only [List.length_map, List.length_append, List.length_cons, List.length_nil]; omega) | (simp; omega) | (simp; done))); (focus decide); intro v30 w30 ho30 hb30; (try simp only [SB] at ho30); (try simp only [SS, Nat.reduceAdd]))
             ((with_reducible apply l_assign); (focus (first | (simp only [EE]; done) | (simp only [EE]; exact rfl) | exact rfl)); (try simp only [SS, Nat.reduceAdd]))
             ((with_reducible apply wpList_nil); refine NoPanic.normal ?_))
          | ((with_reducible apply (wp_region_lit (id := 6)))
             ((with_reducible apply l_move); (focus (first | (simp only [EE]; done) | (simp only [EE]; exact rfl) | exact rfl)); (try simp only [SS, Nat.reduceAdd]))
             ((with_reducible apply l_move); (focus (first | (simp only [EE]; done) | (simp only [EE]; exact rfl) | exact rfl)); (try simp only [SS, Nat.reduceAdd]))
             ((with_reducible apply l_move); (focus (first | (simp only [EE]; done) | (simp only [EE]; exact rfl) | exact rfl)); (try simp only [SS, Nat.reduceAdd]))
             ((with_reducible apply l_add); (focus exact rfl); (focus exact rfl); (focus (first | (apply IntWalk.i64_in; omega) | exact IntWalk.i64_left _)); (try simp only [SS, Nat.reduceAdd]))
             ((with_reducible apply l_sub); (focus exact rfl); (focus exact rfl); (focus (first | (apply IntWalk.i64_in; omega) | exact IntWalk.i64_left _)); (try simp only [SS, Nat.reduceAdd]))
             ((with_reducible apply l_build); (focus (first | (simp only [EE]; done) | (simp only [EE]; exact rfl) | exact rfl)); (focus exact rfl); (try simp only [SS, SB, Nat.reduceAdd]))
             ((with_reducible apply (l_buildSlice (xs := [(.tmp 36)]))); (focus exact rfl); (focus exact rfl); (focus (first | (simp only [EE]; done) | (simp only [EE]; exact rfl) | exact rfl)); (focus exact rfl); (focus exact rfl); (focus exact rfl); intro g37 w37 hb37 hx37 hg37; (try simp only [SB] at hb37); (try simp only [SS, Nat.reduceAdd]))
             ((with_reducible apply l_assign); (focus (first | (simp only [EE]; done) | (simp only [EE]; exact rfl) | exact rfl)); (try simp only [SS, Nat.reduceAdd]))
             (with_reducible apply wpList_nil))
          | ((fail_if_success (with_reducible apply no_region)); (fail_if_success (with_reducible apply no_list)); (fail_if_success (with_reducible apply no_oper)); (fail_if_success (with_reducible apply no_par)); (fail_if_success (with_reducible apply no_loop)); go_step))
    all_goals
      go_ret
      refine ⟨_, rfl, ?_, (by (focus (repeat (first | exact xr _ | assumption | (apply xt; assumption)))))⟩
      rw [rowsL_nil s _ _ (by omega)]
      exact (Own.nil _ 0 42 2).slr
  | succ f ih =>
    intro a m w hf ha hb hm hm2 hlen
    by_cases hh : s.last - a + 1 < m
    · have hr := rowsL_more s (by omega) a m ⟨ha, hb⟩ hh
      have hl2 : (rowsL s s.first (m - (s.last - a + 1))).length ≤ 100000 := by
        rw [hr] at hlen
        simp at hlen
        omega
      go_enter Try.func32, Try.ntmps32
      repeat' (
          first
            | ((with_reducible apply wp_seq_k); intro K hK)
            | (simp only [Exit.then, Exit.inBlock, ↓reduceIte, Nat.reduceEqDiff])
            | with_reducible apply wp_block
            | with_reducible apply wp_skip
            | with_reducible apply wp_exit
            | ((with_reducible apply wp_cond_true); (focus exact rfl))
            | ((with_reducible apply wp_cond_false); (focus exact rfl))
            | (((with_reducible apply wp_cond_split); (focus exact rfl)) <;> intro hb <;> (try simp only [bne_iff_ne, ne_eq, bne_eq_false_iff_eq, beq_iff_eq, beq_eq_false_iff_ne, decide_eq_true_eq, decide_eq_false_iff_not, Bool.not_eq_true', Bool.not_eq_false', Bool.and_eq_true, Bool.or_eq_true, Bool.and_eq_false_iff, Bool.or_eq_false_iff, Int.not_lt, Int.not_le, Bool.not_eq_true, Bool.not_eq_false] at hb) <;> (try (have hbl := And.left hb; have hbr := And.right hb)) <;> (try (have hbll := And.left hbl; have hblr := And.right hbl)) <;> (try first | contradiction | exact (bff hb (by assumption)).elim | exact (bft hb (by assumption)).elim | (exfalso; omega)))
            | ((with_reducible apply (wp_region_lit (id := 0)))
               ((with_reducible apply l_boxN); (focus exact rfl); intro g3 w3 hb3 hx3 hg3; (try simp only [SS, Nat.reduceAdd]))
               ((with_reducible apply l_assign); (focus (first | (simp only [EE]; done) | (simp only [EE]; exact rfl) | exact rfl)); (try simp only [SS, Nat.reduceAdd]))
               (with_reducible apply wpList_nil))
            | ((with_reducible apply (wp_region_lit (id := 1)))
               ((with_reducible apply l_move); (focus (first | (simp only [EE]; done) | (simp only [EE]; exact rfl) | exact rfl)); (try simp only [SS, Nat.reduceAdd]))
               ((with_reducible apply l_eql); (focus exact rfl); (focus exact rfl); (try simp only [SS, Nat.reduceAdd]))
               (with_reducible apply wpList_nil))
            | ((with_reducible apply (wp_region_lit (id := 2)))
               ((with_reducible apply l_assign); (focus (first | (simp only [EE]; done) | (simp only [EE]; exact rfl) | exact rfl)); (try simp only [SS, Nat.reduceAdd]))
               (with_reducible apply wpList_nil))
            | ((with_reducible apply (wp_region_lit (id := 3)))
               ((with_reducible apply l_fieldAddr); (focus exact rfl); (try simp only [SS, Nat.reduceAdd]))
               ((with_reducible apply l_load1); (focus exact rfl); (focus (first | assumption | ((apply cx); (focus assumption); (focus (first | ((repeat (first | exact xr _ | assumption | (apply xt; assumption))); done) | (repeat (first | exact xr _ | assumption | ((apply xz); (focus assumption); (focus ((repeat (first | exact xr _ | assumption | (apply xt; assumption))); done))) | ((apply xtb); assumption))))); done) | ((first | (apply cb; assumption) | (apply c0; assumption) | (apply cr; assumption) | (apply cp; assumption)); (focus (first | ((repeat (first | exact xr _ | assumption | (apply xt; assumption))); done) | (repeat (first | exact xr _ | assumption | ((apply xz); (focus assumption); (focus ((repeat (first | exact xr _ | assumption | (apply xt; assumption))); done))) | ((apply xtb); assumption))))); exact rfl))); (try simp only [SS, Nat.reduceAdd]))
               ((with_reducible apply l_move); (focus (first | (simp only [EE]; done) | (simp only [EE]; exact rfl) | exact rfl)); (try simp only [SS, Nat.reduceAdd]))
               ((with_reducible apply l_sub); (focus exact rfl); (focus exact rfl); (focus (first | (apply IntWalk.i64_in; omega) | exact IntWalk.i64_left _)); (try simp only [SS, Nat.reduceAdd]))
               ((with_reducible apply l_add); (focus exact rfl); (focus exact rfl); (focus (first | (apply IntWalk.i64_in; omega) | exact IntWalk.i64_left _)); (try simp only [SS, Nat.reduceAdd]))
               ((with_reducible apply l_assign); (focus (first | (simp only [EE]; done) | (simp only [EE]; exact rfl) | exact rfl)); (try simp only [SS, Nat.reduceAdd]))
               (with_reducible apply wpList_nil))
            | ((with_reducible apply (wp_region_lit (id := 4)))
               ((with_reducible apply l_move); (focus (first | (simp only [EE]; done) | (simp only [EE]; exact rfl) | exact rfl)); (try simp only [SS, Nat.reduceAdd]))
               ((with_reducible apply l_move); (focus (first | (simp only [EE]; done) | (simp only [EE]; exact rfl) | exact rfl)); (try simp only [SS, Nat.reduceAdd]))
               ((with_reducible apply l_gtr); (focus exact rfl); (focus exact rfl); (try simp only [SS, Nat.reduceAdd]))
               (with_reducible apply wpList_nil))
            | (((with_reducible apply (wp_region_tail (id := 5) 12)); (focus kernel_rfl); (focus kernel_rfl); (focus kernel_rfl); (focus exact of_decide_eq_true rfl); (focus exact rfl); simp only [List.take_succ_cons, List.take_zero])
               ((with_reducible apply p_move); (focus (first | (simp only [EE]; done) | (simp only [EE]; exact rfl) | exact rfl)); (try simp only [SS, Nat.reduceAdd]))
               ((with_reducible apply p_fieldAddr); (focus exact rfl); (try simp only [SS, Nat.reduceAdd]))
               ((with_reducible apply p_load1); (focus exact rfl); (focus (first | assumption | ((apply cx); (focus assumption); (focus (first | ((repeat (first | exact xr _ | assumption | (apply xt; assumption))); done) | (repeat (first | exact xr _ | assumption | ((apply xz); (focus assumption); (focus ((repeat (first | exact xr _ | assumption | (apply xt; assumption))); done))) | ((apply xtb); assumption))))); done) | ((first | (apply cb; assumption) | (apply c0; assumption) | (apply cr; assumption) | (apply cp; assumption)); (focus (first | ((repeat (first | exact xr _ | assumption | (apply xt; assumption))); done) | (repeat (first | exact xr _ | assumption | ((apply xz); (focus assumption); (focus ((repeat (first | exact xr _ | assumption | (apply xt; assumption))); done))) | ((apply xtb); assumption))))); exact rfl))); (try simp only [SS, Nat.reduceAdd]))
               ((with_reducible apply p_build); (focus (first | (simp only [EE]; done) | (simp only [EE]; exact rfl) | exact rfl)); (focus exact rfl); (try simp only [SS, SB, Nat.reduceAdd]))
               ((with_reducible apply (p_buildSlice (xs := [(.tmp 21)]))); (focus exact rfl); (focus exact rfl); (focus (first | (simp only [EE]; done) | (simp only [EE]; exact rfl) | exact rfl)); (focus exact rfl); (focus exact rfl); (focus exact rfl); intro g22; (try simp only [SS, Nat.reduceAdd]))
               ((with_reducible apply p_loadN); (focus exact rfl); (focus (first | assumption | ((first | (apply rb; assumption) | (apply rx; assumption)); (focus (first | ((repeat (first | exact xr _ | assumption | (apply xt; assumption))); done) | (repeat (first | exact xr _ | assumption | ((apply xz); (focus assumption); (focus ((repeat (first | exact xr _ | assumption | (apply xt; assumption))); done))) | ((apply xtb); assumption)))))))); (focus exact rfl); (try simp only [SS, Nat.reduceAdd]))
               ((with_reducible apply p_fieldAddr); (focus exact rfl); (try simp only [SS, Nat.reduceAdd]))
               ((with_reducible apply p_load1); (focus exact rfl); (focus (first | assumption | ((apply cx); (focus assumption); (focus (first | ((repeat (first | exact xr _ | assumption | (apply xt; assumption))); done) | (repeat (first | exact xr _ | assumption | ((apply xz); (focus assumption); (focus ((repeat (first | exact xr _ | assumption | (apply xt; assumption))); done))) | ((apply xtb); assumption))))); done) | ((first | (apply cb; assumption) | (apply c0; assumption) | (apply cr; assumption) | (apply cp; assumption)); (focus (first | ((repeat (first | exact xr _ | assumption | (apply xt; assumption))); done) | (repeat (first | exact xr _ | assumption | ((apply xz); (focus assumption); (focus ((repeat (first | exact xr _ | assumption | (apply xt; assumption))); done))) | ((apply xtb); assumption))))); exact rfl))); (try simp only [SS, Nat.reduceAdd]))
               ((with_reducible apply p_move); (focus (first | (simp only [EE]; done) | (simp only [EE]; exact rfl) | exact rfl)); (try simp only [SS, Nat.reduceAdd]))
               ((with_reducible apply p_move); (focus (first | (simp only [EE]; done) | (simp only [EE]; exact rfl) | exact rfl)); (try simp only [SS, Nat.reduceAdd]))
               ((with_reducible apply p_sub); (focus exact rfl); (focus exact rfl); (focus (first | (apply IntWalk.i64_in; omega) | exact IntWalk.i64_left _)); (try simp only [SS, Nat.reduceAdd]))
               ((with_reducible apply p_enterS); (focus (first | (simp only [EE]; done) | (simp only [EE]; exact rfl) | exact rfl)); first | ((focus (intro w1 hw1; (with_reducible refine (ih _ _ _ ?_ ?_ ?_ ?_ ?_ ?_).mono ?_); (focus (first | assumption | exact rfl | omega | simp; done)); (focus (first | assumption | exact rfl | omega | simp; done)); (focus (first | assumption | exact rfl | omega | simp; done)); (focus (first | assumption | exact rfl | omega | simp; done)); (focus (first | assumption | exact rfl | omega | simp; done)); (focus (first | assumption | exact rfl | omega | simp; done)); rintro e w29 ⟨v29, rfl, hp29, hx29⟩; exact ⟨v29, rfl, hp29, hx29⟩)); intro v29; (try simp only [SS, Nat.reduceAdd])))
               ((with_reducible apply par_nil); intro v5 hv5 hfs; have hb22 := (hfs _ (List.mem_of_getElem? (i := 4) rfl)).1; have hg22 := (hfs _ (List.mem_of_getElem? (i := 4) rfl)).2; (try simp only [SB] at hb22); have hp29 := hfs _ (List.mem_of_getElem? (i := 11) rfl); (try clear hfs); simp only [tailQ, List.drop_succ_cons, List.drop_zero])
               ((with_reducible apply l_appendS); (focus (first | (simp only [EE]; done) | (simp only [EE]; exact rfl) | exact rfl)); (focus (first | assumption | (apply Own.blk1; (focus assumption); (focus (first | assumption | omega)); (focus exact rfl)) | ((apply Own.ext); (focus assumption); (focus (first | ((repeat (first | exact xr _ | assumption | (apply xt; assumption))); done) | (repeat (first | exact xr _ | assumption | ((apply xz); (focus assumption); (focus ((repeat (first | exact xr _ | assumption | (apply xt; assumption))); done))) | ((apply xtb); assumption)))))))); (focus (first | (simp only [EE]; done) | (simp only [EE]; exact rfl) | exact rfl)); (focus (first | assumption | ((apply SlR.ext); (focus assumption); (focus (first | ((repeat (first | exact xr _ | assumption | (apply xt; assumption))); done) | (repeat (first | exact xr _ | assumption | ((apply xz); (focus assumption); (focus ((repeat (first | exact xr _ | assumption | (apply xt; assumption))); done))) | ((apply xtb); assumption)))))))); (focus (first | assumption | exact gp_one _ | (intro r hr; simp at hr; grind))); (focus (first | ((apply Ext.sizeOf); (focus (first | ((repeat (first | exact xr _ | assumption | (apply xt; assumption))); done) | (repeat (first | exact xr _ | assumption | ((apply xz); (focus assumption); (focus ((repeat (first | exact xr _ | assumption | (apply xt; assumption))); done))) | ((apply xtb); assumption))))); done) | omega)); (focus (first | omega | (simp only [List.length_map, List.length_append, List.length_cons, List.length_nil]; omega) | (simp; omega) | (simp; done))); (focus decide); intro v30 w30 ho30 hb30; (try simp only [SB] at ho30); (try simp only [SS, Nat.reduceAdd]))
               ((with_reducible apply l_assign); (focus (first | (simp only [EE]; done) | (simp only [EE]; exact rfl) | exact rfl)); (try simp only [SS, Nat.reduceAdd]))
               ((with_reducible apply wpList_nil); refine NoPanic.normal ?_))
            | ((with_reducible apply (wp_region_lit (id := 6)))
               ((with_reducible apply l_move); (focus (first | (simp only [EE]; done) | (simp only [EE]; exact rfl) | exact rfl)); (try simp only [SS, Nat.reduceAdd]))
               ((with_reducible apply l_move); (focus (first | (simp only [EE]; done) | (simp only [EE]; exact rfl) | exact rfl)); (try simp only [SS, Nat.reduceAdd]))
               ((with_reducible apply l_move); (focus (first | (simp only [EE]; done) | (simp only [EE]; exact rfl) | exact rfl)); (try simp only [SS, Nat.reduceAdd]))
               ((with_reducible apply l_add); (focus exact rfl); (focus exact rfl); (focus (first | (apply IntWalk.i64_in; omega) | exact IntWalk.i64_left _)); (try simp only [SS, Nat.reduceAdd]))
               ((with_reducible apply l_sub); (focus exact rfl); (focus exact rfl); (focus (first | (apply IntWalk.i64_in; omega) | exact IntWalk.i64_left _)); (try simp only [SS, Nat.reduceAdd]))
               ((with_reducible apply l_build); (focus (first | (simp only [EE]; done) | (simp only [EE]; exact rfl) | exact rfl)); (focus exact rfl); (try simp only [SS, SB, Nat.reduceAdd]))
               ((with_reducible apply (l_buildSlice (xs := [(.tmp 36)]))); (focus exact rfl); (focus exact rfl); (focus (first | (simp only [EE]; done) | (simp only [EE]; exact rfl) | exact rfl)); (focus exact rfl); (focus exact rfl); (focus exact rfl); intro g37 w37 hb37 hx37 hg37; (try simp only [SB] at hb37); (try simp only [SS, Nat.reduceAdd]))
               ((with_reducible apply l_assign); (focus (first | (simp only [EE]; done) | (simp only [EE]; exact rfl) | exact rfl)); (try simp only [SS, Nat.reduceAdd]))
               (with_reducible apply wpList_nil))
            | ((fail_if_success (with_reducible apply no_region)); (fail_if_success (with_reducible apply no_list)); (fail_if_success (with_reducible apply no_oper)); (fail_if_success (with_reducible apply no_par)); (fail_if_success (with_reducible apply no_loop)); go_step))
      go_ret
      refine ⟨_, rfl, ?_, (by (focus (first | ((repeat (first | exact xr _ | assumption | (apply xt; assumption))); done) | (repeat (first | exact xr _ | assumption | ((apply xz); (focus assumption); (focus ((repeat (first | exact xr _ | assumption | (apply xt; assumption))); done))) | ((apply xtb); assumption))))))⟩
      rw [hr]
      exact ho30.slr
    · by_cases h0 : m = 0
      · subst h0
        go_enter Try.func32, Try.ntmps32
        repeat' (
            first
              | ((with_reducible apply wp_seq_k); intro K hK)
              | (simp only [Exit.then, Exit.inBlock, ↓reduceIte, Nat.reduceEqDiff])
              | with_reducible apply wp_block
              | with_reducible apply wp_skip
              | with_reducible apply wp_exit
              | ((with_reducible apply wp_cond_true); (focus exact rfl))
              | ((with_reducible apply wp_cond_false); (focus exact rfl))
              | (((with_reducible apply wp_cond_split); (focus exact rfl)) <;> intro hb <;> (try simp only [bne_iff_ne, ne_eq, bne_eq_false_iff_eq, beq_iff_eq, beq_eq_false_iff_ne, decide_eq_true_eq, decide_eq_false_iff_not, Bool.not_eq_true', Bool.not_eq_false', Bool.and_eq_true, Bool.or_eq_true, Bool.and_eq_false_iff, Bool.or_eq_false_iff, Int.not_lt, Int.not_le, Bool.not_eq_true, Bool.not_eq_false] at hb) <;> (try (have hbl := And.left hb; have hbr := And.right hb)) <;> (try (have hbll := And.left hbl; have hblr := And.right hbl)) <;> (try first | contradiction | exact (bff hb (by assumption)).elim | exact (bft hb (by assumption)).elim | (exfalso; omega)))
              | ((with_reducible apply (wp_region_lit (id := 0)))
                 ((with_reducible apply l_boxN); (focus exact rfl); intro g3 w3 hb3 hx3 hg3; (try simp only [SS, Nat.reduceAdd]))
                 ((with_reducible apply l_assign); (focus (first | (simp only [EE]; done) | (simp only [EE]; exact rfl) | exact rfl)); (try simp only [SS, Nat.reduceAdd]))
                 (with_reducible apply wpList_nil))
              | ((with_reducible apply (wp_region_lit (id := 1)))
                 ((with_reducible apply l_move); (focus (first | (simp only [EE]; done) | (simp only [EE]; exact rfl) | exact rfl)); (try simp only [SS, Nat.reduceAdd]))
                 ((with_reducible apply l_eql); (focus exact rfl); (focus exact rfl); (try simp only [SS, Nat.reduceAdd]))
                 (with_reducible apply wpList_nil))
              | ((with_reducible apply (wp_region_lit (id := 2)))
                 ((with_reducible apply l_assign); (focus (first | (simp only [EE]; done) | (simp only [EE]; exact rfl) | exact rfl)); (try simp only [SS, Nat.reduceAdd]))
                 (with_reducible apply wpList_nil))
              | ((with_reducible apply (wp_region_lit (id := 3)))
                 ((with_reducible apply l_fieldAddr); (focus exact rfl); (try simp only [SS, Nat.reduceAdd]))
                 ((with_reducible apply l_load1); (focus exact rfl); (focus (first | assumption | ((apply cx); (focus assumption); (focus (repeat (first | exact xr _ | assumption | (apply xt; assumption)))); done) | ((first | (apply cb; assumption) | (apply c0; assumption) | (apply cr; assumption) | (apply cp; assumption)); (focus (repeat (first | exact xr _ | assumption | (apply xt; assumption)))); exact rfl))); (try simp only [SS, Nat.reduceAdd]))
                 ((with_reducible apply l_move); (focus (first | (simp only [EE]; done) | (simp only [EE]; exact rfl) | exact rfl)); (try simp only [SS, Nat.reduceAdd]))
                 ((with_reducible apply l_sub); (focus exact rfl); (focus exact rfl); (focus (first | (apply IntWalk.i64_in; omega) | exact IntWalk.i64_left _)); (try simp only [SS, Nat.reduceAdd]))
                 ((with_reducible apply l_add); (focus exact rfl); (focus exact rfl); (focus (first | (apply IntWalk.i64_in; omega) | exact IntWalk.i64_left _)); (try simp only [SS, Nat.reduceAdd]))
                 ((with_reducible apply l_assign); (focus (first | (simp only [EE]; done) | (simp only [EE]; exact rfl) | exact rfl)); (try simp only [SS, Nat.reduceAdd]))
                 (with_reducible apply wpList_nil))
              | ((with_reducible apply (wp_region_lit (id := 4)))
                 ((with_reducible apply l_move); (focus (first | (simp only [EE]; done) | (simp only [EE]; exact rfl) | exact rfl)); (try simp only [SS, Nat.reduceAdd]))
                 ((with_reducible apply l_move); (focus (first | (simp only [EE]; done) | (simp only [EE]; exact rfl) | exact rfl)); (try simp only [SS, Nat.reduceAdd]))
                 ((with_reducible apply l_gtr); (focus exact rfl); (focus exact rfl); (try simp only [SS, Nat.reduceAdd]))
                 (with_reducible apply wpList_nil))
              | (((with_reducible apply (wp_region_tail (id := 5) 12)); (focus kernel_rfl); (focus kernel_rfl); (focus kernel_rfl); (focus exact of_decide_eq_true rfl); (focus exact rfl); simp only [List.take_succ_cons, List.take_zero])
                 ((with_reducible apply p_move); (focus (first | (simp only [EE]; done) | (simp only [EE]; exact rfl) | exact rfl)); (try simp only [SS, Nat.reduceAdd]))
                 ((with_reducible apply p_fieldAddr); (focus exact rfl); (try simp only [SS, Nat.reduceAdd]))
                 ((with_reducible apply p_load1); (focus exact rfl); (focus (first | assumption | ((apply cx); (focus assumption); (focus (repeat (first | exact xr _ | assumption | (apply xt; assumption)))); done) | ((first | (apply cb; assumption) | (apply c0; assumption) | (apply cr; assumption) | (apply cp; assumption)); (focus (repeat (first | exact xr _ | assumption | (apply xt; assumption)))); exact rfl))); (try simp only [SS, Nat.reduceAdd]))
                 ((with_reducible apply p_build); (focus (first | (simp only [EE]; done) | (simp only [EE]; exact rfl) | exact rfl)); (focus exact rfl); (try simp only [SS, SB, Nat.reduceAdd]))
                 ((with_reducible apply (p_buildSlice (xs := [(.tmp 21)]))); (focus exact rfl); (focus exact rfl); (focus (first | (simp only [EE]; done) | (simp only [EE]; exact rfl) | exact rfl)); (focus exact rfl); (focus exact rfl); (focus exact rfl); intro g22; (try simp only [SS, Nat.reduceAdd]))
                 ((with_reducible apply p_loadN); (focus exact rfl); (focus (first | assumption | ((first | (apply rb; assumption) | (apply rx; assumption)); (focus (repeat (first | exact xr _ | assumption | (apply xt; assumption))))))); (focus exact rfl); (try simp only [SS, Nat.reduceAdd]))
                 ((with_reducible apply p_fieldAddr); (focus exact rfl); (try simp only [SS, Nat.reduceAdd]))
                 ((with_reducible apply p_load1); (focus exact rfl); (focus (first | assumption | ((apply cx); (focus assumption); (focus (repeat (first | exact xr _ | assumption | (apply xt; assumption)))); done) | ((first | (apply cb; assumption) | (apply c0; assumption) | (apply cr; assumption) | (apply cp; assumption)); (focus (repeat (first | exact xr _ | assumption | (apply xt; assumption)))); exact rfl))); (try simp only [SS, Nat.reduceAdd]))
                 ((with_reducible apply p_move); (focus (first | (simp only [EE]; done) | (simp only [EE]; exact rfl) | exact rfl)); (try simp only [SS, Nat.reduceAdd]))
                 ((with_reducible apply p_move); (focus (first | (simp only [EE]; done) | (simp only [EE]; exact rfl) | exact rfl)); (try simp only [SS, Nat.reduceAdd]))
                 ((with_reducible apply p_sub); (focus exact rfl); (focus exact rfl); (focus (first | (apply IntWalk.i64_in; omega) | exact IntWalk.i64_left _)); (try simp only [SS, Nat.reduceAdd]))
                 ((with_reducible apply p_enter); (focus (first | (simp only [EE]; done) | (simp only [EE]; exact rfl) | exact rfl)); first | ((focus (intro w1 hw1; (with_reducible refine (ih).mono ?_);  rintro e w29 ⟨rfl, hx29⟩; exact ⟨rfl, hx29⟩)); (try simp only [SS, Nat.reduceAdd])))
                 ((with_reducible apply par_nil); intro v5 hv5 hfs; have hb22 := (hfs _ (List.mem_of_getElem? (i := 4) rfl)).1; have hg22 := (hfs _ (List.mem_of_getElem? (i := 4) rfl)).2; (try simp only [SB] at hb22); (try clear hfs); simp only [tailQ, List.drop_succ_cons, List.drop_zero])
                 ((with_reducible apply l_appendS); (focus (first | (simp only [EE]; done) | (simp only [EE]; exact rfl) | exact rfl)); (focus (first | assumption | (apply Own.blk1; (focus assumption); (focus (first | assumption | omega)); (focus exact rfl)) | ((apply Own.ext); (focus assumption); (focus (repeat (first | exact xr _ | assumption | (apply xt; assumption))))))); (focus (first | (simp only [EE]; done) | (simp only [EE]; exact rfl) | exact rfl)); (focus (first | assumption | ((apply SlR.ext); (focus assumption); (focus (repeat (first | exact xr _ | assumption | (apply xt; assumption))))))); (focus (first | assumption | exact gp_one _ | (intro r hr; simp at hr; grind))); (focus (first | ((apply Ext.sizeOf); (focus (repeat (first | exact xr _ | assumption | (apply xt; assumption)))); done) | omega)); (focus (first | omega | (simp only [List.length_map, List.length_append, List.length_cons, List.length_nil]; omega) | (simp; omega) | (simp; done))); (focus decide); intro v30 w30 ho30 hb30; (try simp only [SB] at ho30); (try simp only [SS, Nat.reduceAdd]))
                 ((with_reducible apply l_assign); (focus (first | (simp only [EE]; done) | (simp only [EE]; exact rfl) | exact rfl)); (try simp only [SS, Nat.reduceAdd]))
                 ((with_reducible apply wpList_nil); refine NoPanic.normal ?_))
              | ((with_reducible apply (wp_region_lit (id := 6)))
                 ((with_reducible apply l_move); (focus (first | (simp only [EE]; done) | (simp only [EE]; exact rfl) | exact rfl)); (try simp only [SS, Nat.reduceAdd]))
                 ((with_reducible apply l_move); (focus (first | (simp only [EE]; done) | (simp only [EE]; exact rfl) | exact rfl)); (try simp only [SS, Nat.reduceAdd]))
                 ((with_reducible apply l_move); (focus (first | (simp only [EE]; done) | (simp only [EE]; exact rfl) | exact rfl)); (try simp only [SS, Nat.reduceAdd]))
                 ((with_reducible apply l_add); (focus exact rfl); (focus exact rfl); (focus (first | (apply IntWalk.i64_in; omega) | exact IntWalk.i64_left _)); (try simp only [SS, Nat.reduceAdd]))
                 ((with_reducible apply l_sub); (focus exact rfl); (focus exact rfl); (focus (first | (apply IntWalk.i64_in; omega) | exact IntWalk.i64_left _)); (try simp only [SS, Nat.reduceAdd]))
                 ((with_reducible apply l_build); (focus (first | (simp only [EE]; done) | (simp only [EE]; exact rfl) | exact rfl)); (focus exact rfl); (try simp only [SS, SB, Nat.reduceAdd]))
                 ((with_reducible apply (l_buildSlice (xs := [(.tmp 36)]))); (focus exact rfl); (focus exact rfl); (focus (first | (simp only [EE]; done) | (simp only [EE]; exact rfl) | exact rfl)); (focus exact rfl); (focus exact rfl); (focus exact rfl); intro g37 w37 hb37 hx37 hg37; (try simp only [SB] at hb37); (try simp only [SS, Nat.reduceAdd]))
                 ((with_reducible apply l_assign); (focus (first | (simp only [EE]; done) | (simp only [EE]; exact rfl) | exact rfl)); (try simp only [SS, Nat.reduceAdd]))
                 (with_reducible apply wpList_nil))
              | ((fail_if_success (with_reducible apply no_region)); (fail_if_success (with_reducible apply no_list)); (fail_if_success (with_reducible apply no_oper)); (fail_if_success (with_reducible apply no_par)); (fail_if_success (with_reducible apply no_loop)); go_step))
        go_ret
        refine ⟨_, rfl, ?_, (by (focus (repeat (first | exact xr _ | assumption | (apply xt; assumption)))))⟩
        rw [rowsL_nil s _ _ (by omega)]
        exact (Own.nil _ 0 42 2).slr
      · have hr := rowsL_last s a m (by omega) (by omega)
        go_enter Try.func32, Try.ntmps32
        repeat' (
            first
              | ((with_reducible apply wp_seq_k); intro K hK)
              | (simp only [Exit.then, Exit.inBlock, ↓reduceIte, Nat.reduceEqDiff])
              | with_reducible apply wp_block
              | with_reducible apply wp_skip
              | with_reducible apply wp_exit
              | ((with_reducible apply wp_cond_true); (focus exact rfl))
              | ((with_reducible apply wp_cond_false); (focus exact rfl))
              | (((with_reducible apply wp_cond_split); (focus exact rfl)) <;> intro hb <;> (try simp only [bne_iff_ne, ne_eq, bne_eq_false_iff_eq, beq_iff_eq, beq_eq_false_iff_ne, decide_eq_true_eq, decide_eq_false_iff_not, Bool.not_eq_true', Bool.not_eq_false', Bool.and_eq_true, Bool.or_eq_true, Bool.and_eq_false_iff, Bool.or_eq_false_iff, Int.not_lt, Int.not_le, Bool.not_eq_true, Bool.not_eq_false] at hb) <;> (try (have hbl := And.left hb; have hbr := And.right hb)) <;> (try (have hbll := And.left hbl; have hblr := And.right hbl)) <;> (try first | contradiction | exact (bff hb (by assumption)).elim | exact (bft hb (by assumption)).elim | (exfalso; omega)))
              | ((with_reducible apply (wp_region_lit (id := 0)))
                 ((with_reducible apply l_boxN); (focus exact rfl); intro g3 w3 hb3 hx3 hg3; (try simp only [SS, Nat.reduceAdd]))
                 ((with_reducible apply l_assign); (focus (first | (simp only [EE]; done) | (simp only [EE]; exact rfl) | exact rfl)); (try simp only [SS, Nat.reduceAdd]))
                 (with_reducible apply wpList_nil))
              | ((with_reducible apply (wp_region_lit (id := 1)))
                 ((with_reducible apply l_move); (focus (first | (simp only [EE]; done) | (simp only [EE]; exact rfl) | exact rfl)); (try simp only [SS, Nat.reduceAdd]))
                 ((with_reducible apply l_eql); (focus exact rfl); (focus exact rfl); (try simp only [SS, Nat.reduceAdd]))
                 (with_reducible apply wpList_nil))
              | ((with_reducible apply (wp_region_lit (id := 2)))
                 ((with_reducible apply l_assign); (focus (first | (simp only [EE]; done) | (simp only [EE]; exact rfl) | exact rfl)); (try simp only [SS, Nat.reduceAdd]))
                 (with_reducible apply wpList_nil))
              | ((with_reducible apply (wp_region_lit (id := 3)))
                 ((with_reducible apply l_fieldAddr); (focus exact rfl); (try simp only [SS, Nat.reduceAdd]))
                 ((with_reducible apply l_load1); (focus exact rfl); (focus (first | assumption | ((apply cx); (focus assumption); (focus (repeat (first | exact xr _ | assumption | (apply xt; assumption)))); done) | ((first | (apply cb; assumption) | (apply c0; assumption) | (apply cr; assumption) | (apply cp; assumption)); (focus (repeat (first | exact xr _ | assumption | (apply xt; assumption)))); exact rfl))); (try simp only [SS, Nat.reduceAdd]))
                 ((with_reducible apply l_move); (focus (first | (simp only [EE]; done) | (simp only [EE]; exact rfl) | exact rfl)); (try simp only [SS, Nat.reduceAdd]))
                 ((with_reducible apply l_sub); (focus exact rfl); (focus exact rfl); (focus (first | (apply IntWalk.i64_in; omega) | exact IntWalk.i64_left _)); (try simp only [SS, Nat.reduceAdd]))
                 ((with_reducible apply l_add); (focus exact rfl); (focus exact rfl); (focus (first | (apply IntWalk.i64_in; omega) | exact IntWalk.i64_left _)); (try simp only [SS, Nat.reduceAdd]))
                 ((with_reducible apply l_assign); (focus (first | (simp only [EE]; done) | (simp only [EE]; exact rfl) | exact rfl)); (try simp only [SS, Nat.reduceAdd]))
                 (with_reducible apply wpList_nil))
              | ((with_reducible apply (wp_region_lit (id := 4)))
                 ((with_reducible apply l_move); (focus (first | (simp only [EE]; done) | (simp only [EE]; exact rfl) | exact rfl)); (try simp only [SS, Nat.reduceAdd]))
                 ((with_reducible apply l_move); (focus (first | (simp only [EE]; done) | (simp only [EE]; exact rfl) | exact rfl)); (try simp only [SS, Nat.reduceAdd]))
                 ((with_reducible apply l_gtr); (focus exact rfl); (focus exact rfl); (try simp only [SS, Nat.reduceAdd]))
                 (with_reducible apply wpList_nil))
              | (((with_reducible apply (wp_region_tail (id := 5) 12)); (focus kernel_rfl); (focus kernel_rfl); (focus kernel_rfl); (focus exact of_decide_eq_true rfl); (focus exact rfl); simp only [List.take_succ_cons, List.take_zero])
                 ((with_reducible apply p_move); (focus (first | (simp only [EE]; done) | (simp only [EE]; exact rfl) | exact rfl)); (try simp only [SS, Nat.reduceAdd]))
                 ((with_reducible apply p_fieldAddr); (focus exact rfl); (try simp only [SS, Nat.reduceAdd]))
                 ((with_reducible apply p_load1); (focus exact rfl); (focus (first | assumption | ((apply cx); (focus assumption); (focus (repeat (first | exact xr _ | assumption | (apply xt; assumption)))); done) | ((first | (apply cb; assumption) | (apply c0; assumption) | (apply cr; assumption) | (apply cp; assumption)); (focus (repeat (first | exact xr _ | assumption | (apply xt; assumption)))); exact rfl))); (try simp only [SS, Nat.reduceAdd]))
                 ((with_reducible apply p_build); (focus (first | (simp only [EE]; done) | (simp only [EE]; exact rfl) | exact rfl)); (focus exact rfl); (try simp only [SS, SB, Nat.reduceAdd]))
                 ((with_reducible apply (p_buildSlice (xs := [(.tmp 21)]))); (focus exact rfl); (focus exact rfl); (focus (first | (simp only [EE]; done) | (simp only [EE]; exact rfl) | exact rfl)); (focus exact rfl); (focus exact rfl); (focus exact rfl); intro g22; (try simp only [SS, Nat.reduceAdd]))
                 ((with_reducible apply p_loadN); (focus exact rfl); (focus (first | assumption | ((first | (apply rb; assumption) | (apply rx; assumption)); (focus (repeat (first | exact xr _ | assumption | (apply xt; assumption))))))); (focus exact rfl); (try simp only [SS, Nat.reduceAdd]))
                 ((with_reducible apply p_fieldAddr); (focus exact rfl); (try simp only [SS, Nat.reduceAdd]))
                 ((with_reducible apply p_load1); (focus exact rfl); (focus (first | assumption | ((apply cx); (focus assumption); (focus (repeat (first | exact xr _ | assumption | (apply xt; assumption)))); done) | ((first | (apply cb; assumption) | (apply c0; assumption) | (apply cr; assumption) | (apply cp; assumption)); (focus (repeat (first | exact xr _ | assumption | (apply xt; assumption)))); exact rfl))); (try simp only [SS, Nat.reduceAdd]))
                 ((with_reducible apply p_move); (focus (first | (simp only [EE]; done) | (simp only [EE]; exact rfl) | exact rfl)); (try simp only [SS, Nat.reduceAdd]))
                 ((with_reducible apply p_move); (focus (first | (simp only [EE]; done) | (simp only [EE]; exact rfl) | exact rfl)); (try simp only [SS, Nat.reduceAdd]))
                 ((with_reducible apply p_sub); (focus exact rfl); (focus exact rfl); (focus (first | (apply IntWalk.i64_in; omega) | exact IntWalk.i64_left _)); (try simp only [SS, Nat.reduceAdd]))
                 ((with_reducible apply p_enter); (focus (first | (simp only [EE]; done) | (simp only [EE]; exact rfl) | exact rfl)); first | ((focus (intro w1 hw1; (with_reducible refine (ih).mono ?_);  rintro e w29 ⟨rfl, hx29⟩; exact ⟨rfl, hx29⟩)); (try simp only [SS, Nat.reduceAdd])))
                 ((with_reducible apply par_nil); intro v5 hv5 hfs; have hb22 := (hfs _ (List.mem_of_getElem? (i := 4) rfl)).1; have hg22 := (hfs _ (List.mem_of_getElem? (i := 4) rfl)).2; (try simp only [SB] at hb22); (try clear hfs); simp only [tailQ, List.drop_succ_cons, List.drop_zero])
                 ((with_reducible apply l_appendS); (focus (first | (simp only [EE]; done) | (simp only [EE]; exact rfl) | exact rfl)); (focus (first | assumption | (apply Own.blk1; (focus assumption); (focus (first | assumption | omega)); (focus exact rfl)) | ((apply Own.ext); (focus assumption); (focus (repeat (first | exact xr _ | assumption | (apply xt; assumption))))))); (focus (first | (simp only [EE]; done) | (simp only [EE]; exact rfl) | exact rfl)); (focus (first | assumption | ((apply SlR.ext); (focus assumption); (focus (repeat (first | exact xr _ | assumption | (apply xt; assumption))))))); (focus (first | assumption | exact gp_one _ | (intro r hr; simp at hr; grind))); (focus (first | ((apply Ext.sizeOf); (focus (repeat (first | exact xr _ | assumption | (apply xt; assumption)))); done) | omega)); (focus (first | omega | (simp only [List.length_map, List.length_append, List.length_cons, List.length_nil]; omega) | (simp; omega) | (simp; done))); (focus decide); intro v30 w30 ho30 hb30; (try simp only [SB] at ho30); (try simp only [SS, Nat.reduceAdd]))
                 ((with_reducible apply l_assign); (focus (first | (simp only [EE]; done) | (simp only [EE]; exact rfl) | exact rfl)); (try simp only [SS, Nat.reduceAdd]))
                 ((with_reducible apply wpList_nil); refine NoPanic.normal ?_))
              | ((with_reducible apply (wp_region_lit (id := 6)))
                 ((with_reducible apply l_move); (focus (first | (simp only [EE]; done) | (simp only [EE]; exact rfl) | exact rfl)); (try simp only [SS, Nat.reduceAdd]))
                 ((with_reducible apply l_move); (focus (first | (simp only [EE]; done) | (simp only [EE]; exact rfl) | exact rfl)); (try simp only [SS, Nat.reduceAdd]))
                 ((with_reducible apply l_move); (focus (first | (simp only [EE]; done) | (simp only [EE]; exact rfl) | exact rfl)); (try simp only [SS, Nat.reduceAdd]))
                 ((with_reducible apply l_add); (focus exact rfl); (focus exact rfl); (focus (first | (apply IntWalk.i64_in; omega) | exact IntWalk.i64_left _)); (try simp only [SS, Nat.reduceAdd]))
                 ((with_reducible apply l_sub); (focus exact rfl); (focus exact rfl); (focus (first | (apply IntWalk.i64_in; omega) | exact IntWalk.i64_left _)); (try simp only [SS, Nat.reduceAdd]))
                 ((with_reducible apply l_build); (focus (first | (simp only [EE]; done) | (simp only [EE]; exact rfl) | exact rfl)); (focus exact rfl); (try simp only [SS, SB, Nat.reduceAdd]))
                 ((with_reducible apply (l_buildSlice (xs := [(.tmp 36)]))); (focus exact rfl); (focus exact rfl); (focus (first | (simp only [EE]; done) | (simp only [EE]; exact rfl) | exact rfl)); (focus exact rfl); (focus exact rfl); (focus exact rfl); intro g37 w37 hb37 hx37 hg37; (try simp only [SB] at hb37); (try simp only [SS, Nat.reduceAdd]))
                 ((with_reducible apply l_assign); (focus (first | (simp only [EE]; done) | (simp only [EE]; exact rfl) | exact rfl)); (try simp only [SS, Nat.reduceAdd]))
                 (with_reducible apply wpList_nil))
              | ((fail_if_success (with_reducible apply no_region)); (fail_if_success (with_reducible apply no_list)); (fail_if_success (with_reducible apply no_oper)); (fail_if_success (with_reducible apply no_par)); (fail_if_success (with_reducible apply no_loop)); go_step))
        go_ret
        refine ⟨_, rfl, ?_, (by (focus (repeat (first | exact xr _ | assumption | (apply xt; assumption)))))⟩
        rw [hr]
        exact (Own.blk1 hb37 (Nat.le_refl _) rfl).slr
end Go.Proofs.Ytdopillligfdiaa
