/- Days on which what applies may change: the walks. PartnerUntilIsTheLast: the law's walk. Agreements that no case finds: the plain law. Agreements that no case finds: the walks. Agreements that no case finds: the walks, part two. Agreements that no case finds: Never, and the law's walk. The last day and the agreements that no case finds, as the reference reckons them: the plain law. Agreements: the reference, and what is found by addresses. -/
import Derived.Test.YthbhjladfniboaaGreatDoorZ10
namespace Go.Proofs.YthbhjladfniboaaGreatDoor
set_option linter.unusedSimpArgs false
set_option linter.unusedVariables false
open Go.RowKit
set_option maxRecDepth 100000
set_option maxHeartbeats 1000000

theorem flat_len (fr : Int) : ∀ l : List Agr, (l.flatMap (pts fr)).length ≤ 2 * l.length
  | [] => by simp
  | a :: l => by
    have h1 := flat_len fr l
    have h2 : (pts fr a).length ≤ 2 := List.length_filter_le _ _
    simp only [List.flatMap_cons, List.length_append, List.length_cons]
    omega
theorem changes_sem (l : List Agr) (fr : Int) (hl : l.length ≤ 1000000) (ho : ∀ a ∈ l, ownFaultN a = 0) : Sem Tryz.prog 21 [.sl 0 9 (l.map Agr.row), .int .i64 fr] (.sl 2 1 ((changeL l fr).map iR)) := by
  have hS1 : (rawL l fr).length < 1000000000 := by
    have := flat_len fr l
    simp only [rawL, List.length_cons]
    omega
  have hS2 : (sortI (rawL l fr)).length < 1000000000 := by rw [show (sortI (rawL l fr)).length = (rawL l fr).length from List.length_mergeSort _]; exact hS1
  refine sem_intro (M := fun t => mem t [1000052, 1000053]) hT hM Tryz.func21 inferInstance rfl rfl rfl rfl rfl rfl ?_
  repeat' (
    (conv => whnf)
    first
      | ((try ((first | with_reducible apply NumE.go | with_reducible apply IdxE.go | with_reducible apply TextE.go | with_reducible apply LookE.go | with_reducible apply CallE.go); (conv => whnf))); (with_reducible apply SideD.mk); (focus ((first | (intro hc; have hc0 := hc; (try simp only [SPLT] at hc); (try refine And.intro (by first | exact hc0 | exact ⟨hc0, hc0⟩ | exact ⟨hc0, hc0, hc0⟩) ?_)) | skip); first | exact idx_nat (by assumption) | exact idx_some (by omega) (by assumption) | exact idx_eq (by assumption) (by omega) | exact IntWalk.i64_in _ (by omega) | exact IntWalk.u8_in _ (by omega) | exact IntWalk.u64_in _ (by omega) | exact IntWalk.i32_in _ (by omega) | exact rfl | exact ⟨by omega, rfl⟩ | exact ⟨rfl, rfl⟩ | assumption | exact ⟨by omega, by omega⟩ | exact ⟨by omega, by simp; omega⟩ | omega | exact ⟨rfl, rfl, by simp only [List.length_map, List.length_append, List.length_cons, List.length_nil]; omega⟩ | exact ⟨rfl, rfl, by simp; omega⟩ | exact ⟨rfl, rfl, by omega⟩ | exact ⟨rfl, by simp; omega⟩ | exact id | (intro h; simp [h]; done) | ((repeat (first | exact trivial | exact rfl | apply And.intro)); done) | (simp; omega) | (refine ⟨?_, ?_, ?_⟩ <;> first | omega | (simp; done) | (simp; omega)) | exact hc0 | exact ⟨hc0, hc0⟩ | exact ⟨hc0, hc0, hc0⟩ | (simp only [Bool.and_eq_true] at hc0; simp [hc0]; done) | (simp_all; done))))
      | ((with_reducible apply CallO.go); (conv => whnf); (with_reducible apply SideD.mk); (focus (first | ((apply giveso_go (Sort_ints _ _)); (focus (first | exact rfl | (simp; done))); (focus (first | exact DLes.refl _ | (repeat (first | exact DLes.nil | ((apply DLes.cons); (focus (first | exact DLe.refl _ | exact DLe.own _ _ | exact DLe.nil _ _ | exact DLe.any _))))))); (focus exact rfl); (all_goals (first | exact rfl | assumption | omega | (simp; omega) | (simp; done)))) | ((apply giveso_go (Compact_ints _ _)); (focus (first | exact rfl | (simp; done))); (focus (first | exact DLes.refl _ | (repeat (first | exact DLes.nil | ((apply DLes.cons); (focus (first | exact DLe.refl _ | exact DLe.own _ _ | exact DLe.nil _ _ | exact DLe.any _))))))); (focus exact rfl); (all_goals (first | exact rfl | assumption | omega | (simp; omega) | (simp; done)))))))
      | ((first | with_reducible apply DrawR.go0 | with_reducible apply KerB.mk); (focus kernel_rfl))
      | (first | with_reducible apply ends_ret | with_reducible apply ends_norm | with_reducible apply Halt'.mk)
      | ((with_reducible apply CondD.mk) <;> intro hb <;> (try simp only [SPLT] at hb) <;> (try first | contradiction | exact absurd hb (by assumption) | exact absurd (by assumption) hb | (exfalso; omega))))
  all_goals (try exact (false : Bool))
  refine loop_go (M := fun t => mem t [1000052, 1000053]) hT hM (fun k : Nat => [(14, .int .i64 k), (5, .sl 2 1 ((fr :: (l.take k).flatMap (pts fr)).map iR))]) (fun k => k ≤ l.length) (fun k => l.length - k) (0) ?_ ?_ ?_
  · (conv => whnf)
    refine ⟨?_, by rfl⟩
    repeat' ((conv => whnf); first | exact DLes.nil | with_reducible exact DLe.refl _ | exact DLe.any _ | with_reducible apply DLes.cons | exact DLe.refl _ | exact dle_int (by omega) | exact dle_nil rfl | exact DLe.own _ _ | (exact dle_sl rfl))
  · exact Nat.zero_le _
  · intro k hk
    rcases hx : l[k]? with _ | a
    · have hk' : k = l.length := by have := List.getElem?_eq_none_iff.1 hx; omega
      subst hk'
      have hr : fr :: (l.take l.length).flatMap (pts fr) = rawL l fr := by rw [List.take_length]; rfl
      rw [hr]
      repeat' (
        (conv => whnf)
        first
          | ((try ((first | with_reducible apply NumE.go | with_reducible apply IdxE.go | with_reducible apply TextE.go | with_reducible apply LookE.go | with_reducible apply CallE.go); (conv => whnf))); (with_reducible apply SideD.mk); (focus ((first | (intro hc; have hc0 := hc; (try simp only [SPLT] at hc); (try refine And.intro (by first | exact hc0 | exact ⟨hc0, hc0⟩ | exact ⟨hc0, hc0, hc0⟩) ?_)) | skip); first | exact idx_nat (by assumption) | exact idx_some (by omega) (by assumption) | exact idx_eq (by assumption) (by omega) | exact IntWalk.i64_in _ (by omega) | exact IntWalk.u8_in _ (by omega) | exact IntWalk.u64_in _ (by omega) | exact IntWalk.i32_in _ (by omega) | exact rfl | exact ⟨by omega, rfl⟩ | exact ⟨rfl, rfl⟩ | assumption | exact ⟨by omega, by omega⟩ | exact ⟨by omega, by simp; omega⟩ | omega | exact ⟨rfl, rfl, by simp only [List.length_map, List.length_append, List.length_cons, List.length_nil]; omega⟩ | exact ⟨rfl, rfl, by simp; omega⟩ | exact ⟨rfl, rfl, by omega⟩ | exact ⟨rfl, by simp; omega⟩ | exact id | (intro h; simp [h]; done) | ((repeat (first | exact trivial | exact rfl | apply And.intro)); done) | (simp; omega) | (refine ⟨?_, ?_, ?_⟩ <;> first | omega | (simp; done) | (simp; omega)) | exact hc0 | exact ⟨hc0, hc0⟩ | exact ⟨hc0, hc0, hc0⟩ | (simp only [Bool.and_eq_true] at hc0; simp [hc0]; done) | (simp_all; done))))
          | ((with_reducible apply CallO.go); (conv => whnf); (with_reducible apply SideD.mk); (focus (first | ((apply giveso_go (Sort_ints _ _)); (focus (first | exact rfl | (simp; done))); (focus (first | exact DLes.refl _ | (repeat (first | exact DLes.nil | ((apply DLes.cons); (focus (first | exact DLe.refl _ | exact DLe.own _ _ | exact DLe.nil _ _ | exact DLe.any _))))))); (focus exact rfl); (all_goals (first | exact rfl | assumption | omega | (simp; omega) | (simp; done)))) | ((apply giveso_go (Compact_ints _ _)); (focus (first | exact rfl | (simp; done))); (focus (first | exact DLes.refl _ | (repeat (first | exact DLes.nil | ((apply DLes.cons); (focus (first | exact DLe.refl _ | exact DLe.own _ _ | exact DLe.nil _ _ | exact DLe.any _))))))); (focus exact rfl); (all_goals (first | exact rfl | assumption | omega | (simp; omega) | (simp; done)))))))
          | ((first | with_reducible apply DrawR.go0 | with_reducible apply KerB.mk); (focus kernel_rfl))
          | (first | with_reducible apply ends_ret | with_reducible apply ends_norm | with_reducible apply Halt'.mk)
          | ((with_reducible apply CondD.mk) <;> intro hb <;> (try simp only [SPLT] at hb) <;> (try first | contradiction | exact absurd hb (by assumption) | exact absurd (by assumption) hb | (exfalso; omega))))
      all_goals (try exact (false : Bool))
      repeat' ((conv => whnf); first | exact trivial | with_reducible apply And.intro | with_reducible apply endsO_ret | with_reducible apply endsO_norm | exact DLes.nil | with_reducible exact DLe.refl _ | exact DLe.any _ | with_reducible apply DLes.cons | with_reducible exact rle_refl | exact rle_bool rfl | exact rle_int rfl | exact rle_nil rfl | exact rle_sl0 rfl)
      all_goals (conv => whnf)
      exact rle_sl rfl
    · have hlt := (List.getElem?_eq_some_iff.1 hx).1
      obtain ⟨⟨b1, b2, b3, b4⟩, _⟩ := fit_of_own (ho a (List.mem_of_getElem? hx))
      have hfl := flat_len fr (l.take k)
      rw [List.length_take] at hfl
      have hbl : (fr :: (l.take k).flatMap (pts fr)).length ≤ 100000000 := by simp only [List.length_cons]; omega
      have hnx : fr :: (l.take (k + 1)).flatMap (pts fr) = (fr :: (l.take k).flatMap (pts fr)) ++ pts fr a := by rw [take_at hx]; simp
      generalize fr :: (l.take k).flatMap (pts fr) = base at *
      repeat' (
        (conv => whnf)
        first
          | ((try ((first | with_reducible apply NumE.go | with_reducible apply IdxE.go | with_reducible apply TextE.go | with_reducible apply LookE.go | with_reducible apply CallE.go); (conv => whnf))); (with_reducible apply SideD.mk); (focus ((first | (intro hc; have hc0 := hc; (try simp only [SPLT] at hc); (try refine And.intro (by first | exact hc0 | exact ⟨hc0, hc0⟩ | exact ⟨hc0, hc0, hc0⟩) ?_)) | skip); first | exact idx_nat (by assumption) | exact idx_some (by omega) (by assumption) | exact idx_eq (by assumption) (by omega) | exact IntWalk.i64_in _ (by omega) | exact IntWalk.u8_in _ (by omega) | exact IntWalk.u64_in _ (by omega) | exact IntWalk.i32_in _ (by omega) | exact rfl | exact ⟨by omega, rfl⟩ | exact ⟨rfl, rfl⟩ | assumption | exact ⟨by omega, by omega⟩ | exact ⟨by omega, by simp; omega⟩ | omega | exact ⟨rfl, rfl, by simp only [List.length_map, List.length_append, List.length_cons, List.length_nil]; omega⟩ | exact ⟨rfl, rfl, by simp; omega⟩ | exact ⟨rfl, rfl, by omega⟩ | exact ⟨rfl, by simp; omega⟩ | exact id | (intro h; simp [h]; done) | ((repeat (first | exact trivial | exact rfl | apply And.intro)); done) | (simp; omega) | (refine ⟨?_, ?_, ?_⟩ <;> first | omega | (simp; done) | (simp; omega)) | exact hc0 | exact ⟨hc0, hc0⟩ | exact ⟨hc0, hc0, hc0⟩ | (simp only [Bool.and_eq_true] at hc0; simp [hc0]; done) | (simp_all; done))))
          | ((with_reducible apply CallO.go); (conv => whnf); (with_reducible apply SideD.mk); (focus (first | ((apply giveso_go (Sort_ints _ _)); (focus (first | exact rfl | (simp; done))); (focus (first | exact DLes.refl _ | (repeat (first | exact DLes.nil | ((apply DLes.cons); (focus (first | exact DLe.refl _ | exact DLe.own _ _ | exact DLe.nil _ _ | exact DLe.any _))))))); (focus exact rfl); (all_goals (first | exact rfl | assumption | omega | (simp; omega) | (simp; done)))) | ((apply giveso_go (Compact_ints _ _)); (focus (first | exact rfl | (simp; done))); (focus (first | exact DLes.refl _ | (repeat (first | exact DLes.nil | ((apply DLes.cons); (focus (first | exact DLe.refl _ | exact DLe.own _ _ | exact DLe.nil _ _ | exact DLe.any _))))))); (focus exact rfl); (all_goals (first | exact rfl | assumption | omega | (simp; omega) | (simp; done)))))))
          | ((first | with_reducible apply DrawR.go0 | with_reducible apply KerB.mk); (focus kernel_rfl))
          | (first | with_reducible apply ends_ret | with_reducible apply ends_norm | with_reducible apply Halt'.mk)
          | ((with_reducible apply CondD.mk) <;> intro hb <;> (try simp only [SPLT] at hb) <;> (try first | contradiction | exact absurd hb (by assumption) | exact absurd (by assumption) hb | (exfalso; omega))))
      all_goals (try exact (false : Bool))
      refine ht_down [23] ?_
      conv => whnf
      refine loop_go (M := fun t => mem t [1000052, 1000053]) hT hM (fun j : Nat => [(25, .int .i64 j), (5, .sl 2 1 ((base ++ ([a.first, a.last + 1].take j).filter (fun d => decide (fr < d) && decide (d ≤ 3652059))).map iR))]) (fun j => j ≤ 2) (fun j => 2 - j) (0) ?_ ?_ ?_
      · (conv => whnf)
        refine ⟨?_, by rfl⟩
        repeat' ((conv => whnf); first | exact DLes.nil | with_reducible exact DLe.refl _ | exact DLe.any _ | with_reducible apply DLes.cons | exact DLe.refl _ | exact dle_int (by omega) | exact dle_nil rfl | exact DLe.own _ _ | (exact dle_sl (by simp)))
      · omega
      · intro j hj
        match j, hj with
        | 0, _ =>
          have hb0 : (base ++ ([a.first, a.last + 1].take 0).filter (fun d => decide (fr < d) && decide (d ≤ 3652059))).length ≤ 100000001 := by simp; omega
          repeat' (
            (conv => whnf)
            first
              | ((try ((first | with_reducible apply NumE.go | with_reducible apply IdxE.go | with_reducible apply TextE.go | with_reducible apply LookE.go | with_reducible apply CallE.go); (conv => whnf))); (with_reducible apply SideD.mk); (focus ((first | (intro hc; have hc0 := hc; (try simp only [SPLT] at hc); (try refine And.intro (by first | exact hc0 | exact ⟨hc0, hc0⟩ | exact ⟨hc0, hc0, hc0⟩) ?_)) | skip); first | exact idx_nat (by assumption) | exact idx_some (by omega) (by assumption) | exact idx_eq (by assumption) (by omega) | (exact ⟨by decide, rfl⟩) | exact IntWalk.i64_in _ (by omega) | exact IntWalk.u8_in _ (by omega) | exact IntWalk.u64_in _ (by omega) | exact IntWalk.i32_in _ (by omega) | exact rfl | exact ⟨by omega, rfl⟩ | exact ⟨rfl, rfl⟩ | assumption | exact ⟨by omega, by omega⟩ | exact ⟨by omega, by simp; omega⟩ | omega | exact ⟨rfl, rfl, by simp only [List.length_map, List.length_append, List.length_cons, List.length_nil]; omega⟩ | exact ⟨rfl, rfl, by simp; omega⟩ | exact ⟨rfl, rfl, by omega⟩ | exact ⟨rfl, by simp; omega⟩ | exact id | (intro h; simp [h]; done) | ((repeat (first | exact trivial | exact rfl | apply And.intro)); done) | (simp; omega) | (refine ⟨?_, ?_, ?_⟩ <;> first | omega | (simp; done) | (simp; omega)) | exact hc0 | exact ⟨hc0, hc0⟩ | exact ⟨hc0, hc0, hc0⟩ | (simp only [Bool.and_eq_true] at hc0; simp [hc0]; done) | (simp_all; done))))
              | ((with_reducible apply CallO.go); (conv => whnf); (with_reducible apply SideD.mk); (focus (first | ((apply giveso_go (Sort_ints _ _)); (focus (first | exact rfl | (simp; done))); (focus (first | exact DLes.refl _ | (repeat (first | exact DLes.nil | ((apply DLes.cons); (focus (first | exact DLe.refl _ | exact DLe.own _ _ | exact DLe.nil _ _ | exact DLe.any _))))))); (focus exact rfl); (all_goals (first | exact rfl | assumption | omega | (simp; omega) | (simp; done)))) | ((apply giveso_go (Compact_ints _ _)); (focus (first | exact rfl | (simp; done))); (focus (first | exact DLes.refl _ | (repeat (first | exact DLes.nil | ((apply DLes.cons); (focus (first | exact DLe.refl _ | exact DLe.own _ _ | exact DLe.nil _ _ | exact DLe.any _))))))); (focus exact rfl); (all_goals (first | exact rfl | assumption | omega | (simp; omega) | (simp; done)))))))
              | ((first | with_reducible apply DrawR.go0 | with_reducible apply KerB.mk); (focus kernel_rfl))
              | (first | with_reducible apply ends_ret | with_reducible apply ends_norm | with_reducible apply Halt'.mk)
              | ((with_reducible apply CondD.mk) <;> intro hb <;> (try simp only [SPLT] at hb) <;> (try first | contradiction | exact absurd hb (by assumption) | exact absurd (by assumption) hb | (exfalso; omega))))
          all_goals (try exact (false : Bool))
          · refine ⟨1, by omega, by omega, ?_⟩
            (conv => whnf)
            refine ⟨?_, by rfl⟩
            repeat' ((conv => whnf); first | exact DLes.nil | with_reducible exact DLe.refl _ | exact DLe.any _ | with_reducible apply DLes.cons | exact DLe.refl _ | exact dle_int (by omega) | exact dle_nil rfl | exact DLe.own _ _ | (exact dle_sl (by simp [hb]; rfl)))
          · refine ⟨1, by omega, by omega, ?_⟩
            (conv => whnf)
            refine ⟨?_, by rfl⟩
            repeat' ((conv => whnf); first | exact DLes.nil | with_reducible exact DLe.refl _ | exact DLe.any _ | with_reducible apply DLes.cons | exact DLe.refl _ | exact dle_int (by omega) | exact dle_nil rfl | exact DLe.own _ _ | (exact dle_sl (by simp; omega)))
        | 1, _ =>
          have hf1 : (([a.first, a.last + 1].take 1).filter (fun d => decide (fr < d) && decide (d ≤ 3652059))).length ≤ 1 := by
            have := List.length_filter_le (fun d => decide (fr < d) && decide (d ≤ 3652059)) ([a.first, a.last + 1].take 1)
            simpa using this
          repeat' (
            (conv => whnf)
            first
              | ((try ((first | with_reducible apply NumE.go | with_reducible apply IdxE.go | with_reducible apply TextE.go | with_reducible apply LookE.go | with_reducible apply CallE.go); (conv => whnf))); (with_reducible apply SideD.mk); (focus ((first | (intro hc; have hc0 := hc; (try simp only [SPLT] at hc); (try refine And.intro (by first | exact hc0 | exact ⟨hc0, hc0⟩ | exact ⟨hc0, hc0, hc0⟩) ?_)) | skip); first | exact idx_nat (by assumption) | exact idx_some (by omega) (by assumption) | exact idx_eq (by assumption) (by omega) | (exact ⟨by decide, rfl⟩) | exact IntWalk.i64_in _ (by omega) | exact IntWalk.u8_in _ (by omega) | exact IntWalk.u64_in _ (by omega) | exact IntWalk.i32_in _ (by omega) | exact rfl | exact ⟨by omega, rfl⟩ | exact ⟨rfl, rfl⟩ | assumption | exact ⟨by omega, by omega⟩ | exact ⟨by omega, by simp; omega⟩ | omega | exact ⟨rfl, rfl, by simp only [List.length_map, List.length_append, List.length_cons, List.length_nil]; omega⟩ | exact ⟨rfl, rfl, by simp; omega⟩ | exact ⟨rfl, rfl, by omega⟩ | exact ⟨rfl, by simp; omega⟩ | exact id | (intro h; simp [h]; done) | ((repeat (first | exact trivial | exact rfl | apply And.intro)); done) | (simp; omega) | (refine ⟨?_, ?_, ?_⟩ <;> first | omega | (simp; done) | (simp; omega)) | exact hc0 | exact ⟨hc0, hc0⟩ | exact ⟨hc0, hc0, hc0⟩ | (simp only [Bool.and_eq_true] at hc0; simp [hc0]; done) | (simp_all; done))))
              | ((with_reducible apply CallO.go); (conv => whnf); (with_reducible apply SideD.mk); (focus (first | ((apply giveso_go (Sort_ints _ _)); (focus (first | exact rfl | (simp; done))); (focus (first | exact DLes.refl _ | (repeat (first | exact DLes.nil | ((apply DLes.cons); (focus (first | exact DLe.refl _ | exact DLe.own _ _ | exact DLe.nil _ _ | exact DLe.any _))))))); (focus exact rfl); (all_goals (first | exact rfl | assumption | omega | (simp; omega) | (simp; done)))) | ((apply giveso_go (Compact_ints _ _)); (focus (first | exact rfl | (simp; done))); (focus (first | exact DLes.refl _ | (repeat (first | exact DLes.nil | ((apply DLes.cons); (focus (first | exact DLe.refl _ | exact DLe.own _ _ | exact DLe.nil _ _ | exact DLe.any _))))))); (focus exact rfl); (all_goals (first | exact rfl | assumption | omega | (simp; omega) | (simp; done)))))))
              | ((first | with_reducible apply DrawR.go0 | with_reducible apply KerB.mk); (focus kernel_rfl))
              | (first | with_reducible apply ends_ret | with_reducible apply ends_norm | with_reducible apply Halt'.mk)
              | ((with_reducible apply CondD.mk) <;> intro hb <;> (try simp only [SPLT] at hb) <;> (try first | contradiction | exact absurd hb (by assumption) | exact absurd (by assumption) hb | (exfalso; omega))))
          all_goals (try exact (false : Bool))
          · refine ⟨2, by omega, by omega, ?_⟩
            (conv => whnf)
            refine ⟨?_, by rfl⟩
            repeat' ((conv => whnf); first | exact DLes.nil | with_reducible exact DLe.refl _ | exact DLe.any _ | with_reducible apply DLes.cons | exact DLe.refl _ | exact dle_int (by omega) | exact dle_nil rfl | exact DLe.own _ _ | (exact dle_sl (by simp [List.filter_cons, hb]; split <;> simp <;> rfl)))
          · have hfb : (decide (fr < a.last + 1) && decide (a.last + 1 ≤ 3652059)) = false := by
              rw [Bool.and_eq_false_iff, decide_eq_false_iff_not, decide_eq_false_iff_not]
              omega
            refine ⟨2, by omega, by omega, ?_⟩
            (conv => whnf)
            refine ⟨?_, by rfl⟩
            repeat' ((conv => whnf); first | exact DLes.nil | with_reducible exact DLe.refl _ | exact DLe.any _ | with_reducible apply DLes.cons | exact DLe.refl _ | exact dle_int (by omega) | exact dle_nil rfl | exact DLe.own _ _ | (exact dle_sl (by simp only [List.take_succ_cons, List.take_zero, List.filter_cons, List.filter_nil, hfb]; simp)))
        | 2, _ =>
          have e2 : ([a.first, a.last + 1].take 2).filter (fun d => decide (fr < d) && decide (d ≤ 3652059)) = pts fr a := rfl
          rw [e2]
          repeat' (
            (conv => whnf)
            first
              | ((try ((first | with_reducible apply NumE.go | with_reducible apply IdxE.go | with_reducible apply TextE.go | with_reducible apply LookE.go | with_reducible apply CallE.go); (conv => whnf))); (with_reducible apply SideD.mk); (focus ((first | (intro hc; have hc0 := hc; (try simp only [SPLT] at hc); (try refine And.intro (by first | exact hc0 | exact ⟨hc0, hc0⟩ | exact ⟨hc0, hc0, hc0⟩) ?_)) | skip); first | exact idx_nat (by assumption) | exact idx_some (by omega) (by assumption) | exact idx_eq (by assumption) (by omega) | exact IntWalk.i64_in _ (by omega) | exact IntWalk.u8_in _ (by omega) | exact IntWalk.u64_in _ (by omega) | exact IntWalk.i32_in _ (by omega) | exact rfl | exact ⟨by omega, rfl⟩ | exact ⟨rfl, rfl⟩ | assumption | exact ⟨by omega, by omega⟩ | exact ⟨by omega, by simp; omega⟩ | omega | exact ⟨rfl, rfl, by simp only [List.length_map, List.length_append, List.length_cons, List.length_nil]; omega⟩ | exact ⟨rfl, rfl, by simp; omega⟩ | exact ⟨rfl, rfl, by omega⟩ | exact ⟨rfl, by simp; omega⟩ | exact id | (intro h; simp [h]; done) | ((repeat (first | exact trivial | exact rfl | apply And.intro)); done) | (simp; omega) | (refine ⟨?_, ?_, ?_⟩ <;> first | omega | (simp; done) | (simp; omega)) | exact hc0 | exact ⟨hc0, hc0⟩ | exact ⟨hc0, hc0, hc0⟩ | (simp only [Bool.and_eq_true] at hc0; simp [hc0]; done) | (simp_all; done))))
              | ((with_reducible apply CallO.go); (conv => whnf); (with_reducible apply SideD.mk); (focus (first | ((apply giveso_go (Sort_ints _ _)); (focus (first | exact rfl | (simp; done))); (focus (first | exact DLes.refl _ | (repeat (first | exact DLes.nil | ((apply DLes.cons); (focus (first | exact DLe.refl _ | exact DLe.own _ _ | exact DLe.nil _ _ | exact DLe.any _))))))); (focus exact rfl); (all_goals (first | exact rfl | assumption | omega | (simp; omega) | (simp; done)))) | ((apply giveso_go (Compact_ints _ _)); (focus (first | exact rfl | (simp; done))); (focus (first | exact DLes.refl _ | (repeat (first | exact DLes.nil | ((apply DLes.cons); (focus (first | exact DLe.refl _ | exact DLe.own _ _ | exact DLe.nil _ _ | exact DLe.any _))))))); (focus exact rfl); (all_goals (first | exact rfl | assumption | omega | (simp; omega) | (simp; done)))))))
              | ((first | with_reducible apply DrawR.go0 | with_reducible apply KerB.mk); (focus kernel_rfl))
              | (first | with_reducible apply ends_ret | with_reducible apply ends_norm | with_reducible apply Halt'.mk)
              | ((with_reducible apply CondD.mk) <;> intro hb <;> (try simp only [SPLT] at hb) <;> (try first | contradiction | exact absurd hb (by assumption) | exact absurd (by assumption) hb | (exfalso; omega))))
          all_goals (try exact (false : Bool))
          refine ⟨k + 1, by omega, by omega, ?_⟩
          (conv => whnf)
          refine ⟨?_, by rfl⟩
          repeat' ((conv => whnf); first | exact DLes.nil | with_reducible exact DLe.refl _ | exact DLe.any _ | with_reducible apply DLes.cons | exact DLe.refl _ | exact dle_int (by omega) | exact dle_nil rfl | exact DLe.own _ _ | (exact dle_sl (by rw [hnx])))
theorem tail_at {L : List Int} {r : List Int} {x : Int} (h : L = x :: r) {k : Nat} {d : Int} (hd : r[k]? = some d) (n : Nat) (hn : n = L.length) : (((L.map iR).take n).drop 1)[k]? = some (iR d) := by
  subst hn; subst h
  rw [List.map_cons, List.length_cons, List.take_succ_cons, List.drop_succ_cons, List.drop_zero, List.take_of_length_le (by simp), List.getElem?_map, hd]
  rfl
theorem until_cons {l : List Agr} {c : Cas} {f : Int} {r : List Int} {k : Nat} {d : Int} (h : r[k]? = some d) : untilD l c f (r.drop k) = if findN l (c.on d) ≠ f then d - 1 else untilD l c f (r.drop (k + 1)) := by
  rw [drop_at h]
  rfl
theorem Until_sem (p : List Par) (l : List Agr) (c : Cas) (hok : ∀ x ∈ p, x.Ok) (hl : ∀ a ∈ l, a.Ok) (hc : c.Ok) : Sem Tryz.prog 5 [.sl 0 2 (p.map Par.row), .sl 0 9 (l.map Agr.row), c.d] (.tup [.int .i64 (UntilN p l c).1, .int .i64 (UntilN p l c).2]) := by
  have hz : askedN p l c = 0 → l.length ≤ 1000000 ∧ ∀ a ∈ l, ownFaultN a = 0 := fun h => by
    obtain ⟨h1, h2, h3⟩ := agreementsN_ok (askedN_ok h).1
    exact ⟨by omega, agrFaults_ok h3⟩
  obtain ⟨r, hr1, hr2, hr3⟩ := changeL_cons l c.day
  have hcl : 1 ≤ (changeL l c.day).length := by rw [hr1]; simp
  refine sem_intro (M := fun t => mem t [5, 1000052, 1000053]) hT hM Tryz.func5 inferInstance rfl rfl rfl rfl rfl rfl ?_
  repeat' (
    (conv => whnf)
    first
      | ((try ((first | with_reducible apply NumE.go | with_reducible apply IdxE.go | with_reducible apply TextE.go | with_reducible apply LookE.go | with_reducible apply CallE.go); (conv => whnf))); (with_reducible apply SideD.mk); (focus (first | exact idx_nat (by assumption) | exact idx_some (by omega) (by assumption) | exact idx_eq (by assumption) (by omega) | ((try apply givesl); (focus (((first | apply gives_go (find_sem _ _ (hz (by assumption)).1 (hz (by assumption)).2) | apply gives_go (changes_sem _ _ (hz (by assumption)).1 (hz (by assumption)).2) | apply gives_go (askedFault_sem _ _ _ _ _ _)); (focus (first | exact DLes.refl _ | (repeat (first | exact DLes.nil | ((apply DLes.cons); (focus (first | exact DLe.refl _ | exact DLe.own _ _ | exact DLe.nil _ _ | exact DLe.any _))))))); (focus exact rfl); (all_goals (first | exact rfl | assumption | omega | (simp; omega) | (simp; done)))))); (all_goals exact rfl)) | exact IntWalk.i64_in _ (by omega) | exact IntWalk.u8_in _ (by omega) | exact IntWalk.u64_in _ (by omega) | exact IntWalk.i32_in _ (by omega) | exact rfl | exact ⟨by omega, rfl⟩ | exact ⟨rfl, rfl⟩ | assumption | exact ⟨by omega, by omega⟩ | exact ⟨by omega, by simp; omega⟩ | omega | exact ⟨rfl, rfl, by simp only [List.length_map, List.length_append, List.length_cons, List.length_nil]; omega⟩ | exact ⟨rfl, rfl, by simp; omega⟩ | exact ⟨rfl, rfl, by omega⟩ | exact ⟨rfl, by simp; omega⟩ | exact id | (intro h; simp [h]; done) | ((repeat (first | exact trivial | exact rfl | apply And.intro)); done) | (simp; omega) | (refine ⟨?_, ?_, ?_⟩ <;> first | omega | (simp; done) | (simp; omega)) | (simp_all; done))))
      | ((first | with_reducible apply DrawR.go0 | with_reducible apply KerB.mk); (focus kernel_rfl))
      | (first | with_reducible apply ends_ret | with_reducible apply ends_norm | with_reducible apply Halt'.mk)
      | ((with_reducible apply CondD.mk) <;> intro hb <;> (try simp only [SPLT] at hb) <;> (try first | contradiction | exact absurd hb (by assumption) | exact absurd (by assumption) hb | (exfalso; omega))))
  all_goals (try exact (false : Bool))
  · repeat' ((conv => whnf); first | exact trivial | with_reducible apply And.intro | with_reducible apply endsO_ret | with_reducible apply endsO_norm | exact DLes.nil | with_reducible exact DLe.refl _ | exact DLe.any _ | with_reducible apply DLes.cons | with_reducible exact rle_refl | exact rle_bool rfl | exact rle_int rfl | exact rle_nil rfl | exact rle_sl0 rfl)
    all_goals (conv => whnf)
    all_goals (refine rle_int ?_; simp_all [UntilN]; done)
  · rename_i ha
    repeat' ((conv => whnf); first | exact trivial | with_reducible apply And.intro | with_reducible apply endsO_ret | with_reducible apply endsO_norm | exact DLes.nil | with_reducible exact DLe.refl _ | exact DLe.any _ | with_reducible apply DLes.cons | with_reducible exact rle_refl | exact rle_bool rfl | exact rle_int rfl | exact rle_nil rfl | exact rle_sl0 rfl)
    all_goals (conv => whnf)
    all_goals (refine rle_int ?_; rw [UntilN, if_neg (by simpa using ha), if_pos hb])
  · have ha : askedN p l c = 0 := by assumption
    have hf : 0 ≤ findN l c := by assumption
    obtain ⟨hlen, hown⟩ := hz ha
    have hday := case_day (askedN_ok ha).2
    have hU : UntilN p l c = (untilD l c (findN l c) r, 0) := by
      rw [UntilN, if_neg (by simpa using ha), if_neg (by omega), hr1]
      rfl
    have hrb : ∀ x ∈ r, c.day < x ∧ x ≤ 3652059 := fun x hx => by
      obtain ⟨g1, g2⟩ := (hr3 x).1 hx
      rcases rawL_mem.1 g1 with h | ⟨a, _, _, _, h⟩
      · omega
      · exact ⟨g2, h⟩
    have hrl : (changeL l c.day).length = r.length + 1 := by rw [hr1]; rfl
    have hrlen : r.length ≤ 2000000 := by
      have h1 : (changeL l c.day).length ≤ (rawL l c.day).length := compact_len _
      have h2 := flat_len c.day l
      simp only [rawL, List.length_cons] at h1
      omega
    have hln : (List.drop (Int.toNat 1) (List.take ((changeL l c.day).length : Int).toNat (List.map iR (changeL l c.day)))).length = r.length := by
      rw [List.length_drop, List.length_take, List.length_map, hrl]
      have : Int.toNat 1 = 1 := rfl
      omega
    refine loop_go (M := fun t => mem t [5, 1000052, 1000053]) hT hM (fun x : Nat × Int => [(30, .int .i64 x.1), (5, .obj [.str c.fr, .str c.tgt, .str c.msg, .str c.ver, .int .i64 x.2, .bool c.test])]) (fun x => x.1 ≤ r.length ∧ untilD l c (findN l c) (r.drop x.1) = untilD l c (findN l c) r) (fun x => r.length - x.1) ((0, c.day)) ?_ ?_ ?_
    · (conv => whnf)
      refine ⟨?_, by rfl⟩
      repeat' ((conv => whnf); first | exact DLes.nil | with_reducible exact DLe.refl _ | exact DLe.any _ | with_reducible apply DLes.cons | exact DLe.refl _ | exact dle_int (by omega) | exact dle_nil rfl | exact DLe.own _ _)
    · exact ⟨by simp, rfl⟩
    · rintro x ⟨hk, hrest⟩
      rcases hx : r[x.1]? with _ | d
      · have hk' : x.1 = r.length := by have := List.getElem?_eq_none_iff.1 hx; omega
        repeat' (
          (conv => whnf)
          first
            | ((try ((first | with_reducible apply NumE.go | with_reducible apply IdxE.go | with_reducible apply TextE.go | with_reducible apply LookE.go | with_reducible apply CallE.go); (conv => whnf))); (with_reducible apply SideD.mk); (focus (first | exact idx_nat (by assumption) | exact idx_some (by omega) (by assumption) | exact idx_eq (by assumption) (by omega) | ((try apply givesl); (focus (((first | apply gives_go (find_sem l (c.on 0) hlen hown) | apply gives_go (askedFault_sem _ _ _ _ _ _) | apply gives_go (changes_sem _ _ _ _)); (focus (first | exact DLes.refl _ | (repeat (first | exact DLes.nil | ((apply DLes.cons); (focus (first | exact DLe.refl _ | exact DLe.own _ _ | exact DLe.nil _ _ | exact DLe.any _))))))); (focus exact rfl); (all_goals (first | exact rfl | assumption | omega | (simp; omega) | (simp; done)))))); (all_goals exact rfl)) | exact IntWalk.i64_in _ (by omega) | exact IntWalk.u8_in _ (by omega) | exact IntWalk.u64_in _ (by omega) | exact IntWalk.i32_in _ (by omega) | exact rfl | exact ⟨by omega, rfl⟩ | exact ⟨rfl, rfl⟩ | assumption | exact ⟨by omega, by omega⟩ | exact ⟨by omega, by simp; omega⟩ | omega | exact ⟨rfl, rfl, by simp only [List.length_map, List.length_append, List.length_cons, List.length_nil]; omega⟩ | exact ⟨rfl, rfl, by simp; omega⟩ | exact ⟨rfl, rfl, by omega⟩ | exact ⟨rfl, by simp; omega⟩ | exact id | (intro h; simp [h]; done) | ((repeat (first | exact trivial | exact rfl | apply And.intro)); done) | (simp; omega) | (refine ⟨?_, ?_, ?_⟩ <;> first | omega | (simp; done) | (simp; omega)) | (simp_all; done))))
            | ((first | with_reducible apply DrawR.go0 | with_reducible apply KerB.mk); (focus kernel_rfl))
            | (first | with_reducible apply ends_ret | with_reducible apply ends_norm | with_reducible apply Halt'.mk)
            | ((with_reducible apply CondD.mk) <;> intro hb <;> (try simp only [SPLT] at hb) <;> (try first | contradiction | exact absurd hb (by assumption) | exact absurd (by assumption) hb | (exfalso; omega))))
        all_goals (try exact (false : Bool))
        repeat' ((conv => whnf); first | exact trivial | with_reducible apply And.intro | with_reducible apply endsO_ret | with_reducible apply endsO_norm | exact DLes.nil | with_reducible exact DLe.refl _ | exact DLe.any _ | with_reducible apply DLes.cons | with_reducible exact rle_refl | exact rle_bool rfl | exact rle_int rfl | exact rle_nil rfl | exact rle_sl0 rfl)
        all_goals (conv => whnf)
        · refine rle_int ?_
          rw [hU, ← hrest, hk', List.drop_length]
          rfl
        · exact rle_int (by rw [hU])
      · have hlt := (List.getElem?_eq_some_iff.1 hx).1
        have hdb := hrb d (List.mem_of_getElem? hx)
        have htl := fun n hn => tail_at hr1 hx n hn
        rw [until_cons hx] at hrest
        repeat' (
          (conv => whnf)
          first
            | ((try ((first | with_reducible apply NumE.go | with_reducible apply IdxE.go | with_reducible apply TextE.go | with_reducible apply LookE.go | with_reducible apply CallE.go); (conv => whnf))); (with_reducible apply SideD.mk); (focus (first | exact idx_nat (by assumption) | exact idx_some (by omega) (by assumption) | exact idx_eq (by assumption) (by omega) | ((try apply givesl); (focus (((first | apply gives_go (find_sem l (c.on d) hlen hown) | apply gives_go (askedFault_sem _ _ _ _ _ _) | apply gives_go (changes_sem _ _ _ _)); (focus (first | exact DLes.refl _ | (repeat (first | exact DLes.nil | ((apply DLes.cons); (focus (first | exact DLe.refl _ | exact DLe.own _ _ | exact DLe.nil _ _ | exact DLe.any _))))))); (focus exact rfl); (all_goals (first | exact rfl | assumption | omega | (simp; omega) | (simp; done)))))); (all_goals exact rfl)) | (exact idx_lit (htl _ (by simp)) rfl) | exact IntWalk.i64_in _ (by omega) | exact IntWalk.u8_in _ (by omega) | exact IntWalk.u64_in _ (by omega) | exact IntWalk.i32_in _ (by omega) | exact rfl | exact ⟨by omega, rfl⟩ | exact ⟨rfl, rfl⟩ | assumption | exact ⟨by omega, by omega⟩ | exact ⟨by omega, by simp; omega⟩ | omega | exact ⟨rfl, rfl, by simp only [List.length_map, List.length_append, List.length_cons, List.length_nil]; omega⟩ | exact ⟨rfl, rfl, by simp; omega⟩ | exact ⟨rfl, rfl, by omega⟩ | exact ⟨rfl, by simp; omega⟩ | exact id | (intro h; simp [h]; done) | ((repeat (first | exact trivial | exact rfl | apply And.intro)); done) | (simp; omega) | (refine ⟨?_, ?_, ?_⟩ <;> first | omega | (simp; done) | (simp; omega)) | (simp_all; done))))
            | ((first | with_reducible apply DrawR.go0 | with_reducible apply KerB.mk); (focus kernel_rfl))
            | (first | with_reducible apply ends_ret | with_reducible apply ends_norm | with_reducible apply Halt'.mk)
            | ((with_reducible apply CondD.mk) <;> intro hb <;> (try simp only [SPLT] at hb) <;> (try first | contradiction | exact absurd hb (by assumption) | exact absurd (by assumption) hb | (exfalso; omega))))
        all_goals (try exact (false : Bool))
        · rw [if_pos hb] at hrest
          repeat' ((conv => whnf); first | exact trivial | with_reducible apply And.intro | with_reducible apply endsO_ret | with_reducible apply endsO_norm | exact DLes.nil | with_reducible exact DLe.refl _ | exact DLe.any _ | with_reducible apply DLes.cons | with_reducible exact rle_refl | exact rle_bool rfl | exact rle_int rfl | exact rle_nil rfl | exact rle_sl0 rfl)
          all_goals (conv => whnf)
          · exact rle_int (by rw [hU, ← hrest])
          · exact rle_int (by rw [hU])
        · rw [if_neg (by simpa using hb)] at hrest
          refine ⟨(x.1 + 1, d), ⟨by simp only; omega, hrest⟩, by simp only; omega, ?_⟩
          (conv => whnf)
          refine ⟨?_, by rfl⟩
          repeat' ((conv => whnf); first | exact DLes.nil | with_reducible exact DLe.refl _ | exact DLe.any _ | with_reducible apply DLes.cons | exact DLe.refl _ | exact dle_int (by omega) | exact dle_nil rfl | exact DLe.own _ _)
end Go.Proofs.YthbhjladfniboaaGreatDoor
namespace Go.Proofs.YthbhjladfniboaaGreatDoor
set_option linter.unusedSimpArgs false
set_option linter.unusedVariables false
open Go.RowKit
set_option maxRecDepth 100000
set_option maxHeartbeats 1000000

end Go.Proofs.YthbhjladfniboaaGreatDoor
namespace Go.Proofs.YthbhjladfniboaaGreatDoor
set_option linter.unusedSimpArgs false
set_option linter.unusedVariables false
open Go.RowKit

def zs (n : Nat) : Str := List.replicate (n + 1) 122
def otherK (ns : List Str) : Nat → Nat → Nat
  | 0, k => k
  | f + 1, k => if zs k ∈ ns then otherK ns f (k + 1) else k
/-- A name that is none of these. -/
def otherN (ns : List Str) : Str := zs (otherK ns ns.length 0)
theorem zs_inj {a b : Nat} (h : zs a = zs b) : a = b := by
  have := congrArg List.length h
  simpa [zs] using this
theorem zs_few : ∀ (k : Nat) (ns : List Str), (∀ j, j < k → zs j ∈ ns) → k ≤ ns.length
  | 0, _, _ => Nat.zero_le _
  | k + 1, ns, h => by
    have h1 := zs_few k (ns.erase (zs k)) (fun j hj => (List.mem_erase_of_ne (fun e => by have := zs_inj e; omega)).2 (h j (by omega)))
    have h2 := List.length_erase_of_mem (h k (by omega))
    have h3 := List.length_pos_of_mem (h k (by omega))
    omega
theorem otherK_ok {ns : List Str} : ∀ f k, f + k = ns.length → (∀ j, j < k → zs j ∈ ns) → zs (otherK ns f k) ∉ ns
  | 0, k, hk, h => fun hm => by
    have := zs_few (k + 1) ns (fun j hj => by
      by_cases hjk : j = k
      · subst hjk; exact hm
      · exact h j (by omega))
    omega
  | f + 1, k, hk, h => by
    unfold otherK
    split
    · rename_i hz
      exact otherK_ok f (k + 1) (by omega) (fun j hj => by
        by_cases hjk : j = k
        · subst hjk; exact hz
        · exact h j (by omega))
    · assumption
theorem otherN_ok (ns : List Str) : otherN ns ∉ ns := otherK_ok _ 0 (by omega) (fun j hj => by omega)
theorem other_next {ns : List Str} {k : Nat} (hk : zs k ∈ ns) (h : ∀ j, j < k → zs j ∈ ns) : k + 1 ≤ ns.length ∧ otherK ns (ns.length - k) k = otherK ns (ns.length - (k + 1)) (k + 1) := by
  have := zs_few (k + 1) ns (fun j hj => by
    by_cases hjk : j = k
    · subst hjk; exact hk
    · exact h j (by omega))
  refine ⟨this, ?_⟩
  rw [show ns.length - k = (ns.length - (k + 1)) + 1 by omega, otherK, if_pos hk]
theorem other_end {ns : List Str} {k : Nat} (hk : zs k ∉ ns) : ∀ n, otherK ns n k = k
  | 0 => rfl
  | n + 1 => by rw [otherK, if_neg hk]
def ownOr (s t : Str) : Str := if s = [] then t else s
def akin (a x : Agr) : Bool := (x.fr == a.fr) && (x.tgt == a.tgt) && (x.test == a.test)
def nearL (a : Agr) (l : List Agr) : List Agr := l.filter (akin a)
def Agr.cas (a : Agr) (m v : Str) (d : Int) : Cas := ⟨a.fr, a.tgt, m, v, d, a.test⟩
/-- Among those that matter this one has this number. -/
def atN (a : Agr) (l : List Agr) (i : Nat) : Nat := (nearL a (l.take i)).length
def hidesD (nr : List Agr) (last : Int) (c : Cas) (b : Int) : List Int → Bool
  | [] => true
  | d :: r => if last < d then true else if findN nr (c.on d) = b then false else hidesD nr last c b r
def hidesA (l : List Agr) (m v : Str) (i : Nat) (a : Agr) : Bool := hidesD (nearL a l) a.last (a.cas (ownOr a.msg m) (ownOr a.ver v) a.first) (atN a l i) (changeL (nearL a l) a.first)
def hidesN (l : List Agr) (m v : Str) (i : Nat) : Bool := match l[i]? with
  | some a => hidesA l m v i a
  | none => true
def neverK (l : List Agr) (m v : Str) (k : Nat) : List Int := ((List.range k).filter (hidesN l m v)).map Int.ofNat
def msgsN (l : List Agr) : List Str := l.map (·.msg)
def versN (l : List Agr) : List Str := l.map (·.ver)
def NeverN (p : List Par) (l : List Agr) : List Int × Int := if agreementsN p l ≠ 0 then ([], agreementsN p l) else (neverK l (otherN (msgsN l)) (otherN (versN l)) l.length, 0)
theorem neverK_next {l : List Agr} {m v : Str} {k : Nat} : neverK l m v (k + 1) = neverK l m v k ++ if hidesN l m v k = true then [(k : Int)] else [] := by
  unfold neverK
  rw [List.range_succ, List.filter_append, List.map_append]
  congr 1
  by_cases h : hidesN l m v k = true <;> simp [h]
theorem neverK_len (l : List Agr) (m v : Str) (k : Nat) : (neverK l m v k).length ≤ k := by
  unfold neverK
  rw [List.length_map]
  have := List.length_filter_le (hidesN l m v) (List.range k)
  simpa using this
theorem applies_iff (a : Agr) (c : Cas) : appliesB a c = true ↔ (a.fr = c.fr ∧ a.tgt = c.tgt ∧ a.test = c.test) ∧ (a.msg = [] ∨ a.msg = c.msg) ∧ (a.ver = [] ∨ a.ver = c.ver) ∧ a.first ≤ c.day ∧ c.day ≤ a.last := by
  simp only [appliesB, alikeB, outB, Bool.and_eq_true, Bool.or_eq_true, beq_iff_eq, Bool.not_eq_true', Bool.or_eq_false_iff, decide_eq_false_iff_not]
  constructor
  · rintro ⟨⟨⟨⟨⟨h1, h2⟩, h3⟩, h4⟩, h5⟩, h6, h7⟩
    exact ⟨⟨h1, h2, h5⟩, h3, h4, by omega, by omega⟩
  · rintro ⟨⟨h1, h2, h5⟩, h3, h4, h6, h7⟩
    exact ⟨⟨⟨⟨⟨h1, h2⟩, h3⟩, h4⟩, h5⟩, by omega, by omega⟩
theorem findN_bd (l : List Agr) (c : Cas) : -1 ≤ findN l c ∧ findN l c < l.length := findAt_bd l c l.length (Nat.le_refl _)
theorem findN_best (l : List Agr) (c : Cas) : Best l (fun a => appliesB a c = true) l.length (findN l c) := find_best l c l.length (Nat.le_refl _)
/-- Which is the best among more is the best among fewer. -/
theorem best_sub {l : List Agr} {c c' : Cas} {i : Nat} {a : Agr} (h : findN l c = i) (ha : l[i]? = some a) (hac : appliesB a c' = true) (hs : ∀ x ∈ l, appliesB x c' = true → appliesB x c = true) : findN l c' = i := by
  have hb := findN_best l c
  rw [h] at hb
  obtain ⟨g1, x, g2, g3, g4⟩ := hb.some (by omega)
  refine Best.eq (findN_best l c') (b' := (i : Int)) ⟨fun h0 => by omega, fun _ => ⟨g1, x, g2, ?_, fun j y hj hy hp => g4 j y hj hy (hs y (List.mem_of_getElem? hy) hp)⟩⟩ (findN_bd l c').1 (by omega)
  have : (i : Int).toNat = i := rfl
  rw [this, ha] at g2
  cases g2
  exact hac
theorem near_at {a x : Agr} : ∀ {l : List Agr} {j : Nat}, (nearL a l)[j]? = some x → ∃ i, l[i]? = some x ∧ j = atN a l i ∧ akin a x = true
  | [], j, h => by simp [nearL] at h
  | y :: l, j, h => by
    unfold nearL at h
    by_cases hy : akin a y = true
    · rw [List.filter_cons_of_pos hy] at h
      cases j with
      | zero => cases h; exact ⟨0, rfl, rfl, hy⟩
      | succ j =>
        obtain ⟨i, h1, h2, h3⟩ := near_at (l := l) (j := j) (by rw [List.getElem?_cons_succ] at h; exact h)
        refine ⟨i + 1, by simpa using h1, ?_, h3⟩
        simp only [atN, nearL, List.take_succ_cons, List.filter_cons_of_pos hy, List.length_cons] at h2 ⊢
        omega
    · rw [List.filter_cons_of_neg hy] at h
      obtain ⟨i, h1, h2, h3⟩ := near_at (l := l) (j := j) h
      refine ⟨i + 1, by simpa using h1, ?_, h3⟩
      simp only [atN, nearL, List.take_succ_cons, List.filter_cons_of_neg hy] at h2 ⊢
      exact h2
theorem at_near {a x : Agr} {l : List Agr} {i : Nat} (h : l[i]? = some x) (hx : akin a x = true) : (nearL a l)[atN a l i]? = some x := by
  have hs : l = l.take i ++ x :: l.drop (i + 1) := by rw [← drop_at h, List.take_append_drop]
  conv => lhs; rw [hs]
  unfold nearL atN
  rw [List.filter_append, List.filter_cons_of_pos hx]
  have : (l.take i ++ x :: l.drop (i + 1)).take i = l.take i := by rw [← hs]
  rw [this]
  unfold nearL
  rw [List.getElem?_append_right (Nat.le_refl _), Nat.sub_self]
  rfl
theorem at_mono {a : Agr} {l : List Agr} {i j : Nat} (h : i ≤ j) : atN a l i ≤ atN a l j := by
  have : l.take i = (l.take j).take i := by rw [List.take_take, Nat.min_eq_left h]
  unfold atN nearL
  rw [this]
  exact ((List.take_sublist i (l.take j)).filter _).length_le
theorem at_lt {a x : Agr} {l : List Agr} {i j : Nat} (h : i < j) (hi : l[i]? = some x) (hx : akin a x = true) : atN a l i < atN a l j := by
  have h1 := at_mono (a := a) (l := l) (show i + 1 ≤ j by omega)
  have h2 : atN a l (i + 1) = atN a l i + 1 := by
    unfold atN nearL
    rw [take_at hi, List.filter_append, List.filter_cons_of_pos hx]
    simp
  omega
/-- What is found among all is found among those that matter. -/
theorem near_find {l : List Agr} {a x : Agr} {c : Cas} {i : Nat} (h : findN l c = i) (hi : l[i]? = some x) (hx : akin a x = true) : findN (nearL a l) c = atN a l i := by
  have hb := findN_best l c
  rw [h] at hb
  obtain ⟨g1, y, g2, g3, g4⟩ := hb.some (by omega)
  have : (i : Int).toNat = i := rfl
  rw [this] at g2 g1 g4
  rw [hi] at g2
  cases g2
  have hn := at_near hi hx
  refine Best.eq (findN_best _ c) (b' := (atN a l i : Int)) ⟨fun h0 => by omega, fun _ => ⟨by have := (List.getElem?_eq_some_iff.1 hn).1; omega, x, hn, g3, fun j z hj hz hp => ?_⟩⟩ (findN_bd _ c).1 (by omega)
  obtain ⟨k, k1, k2, _⟩ := near_at hz
  obtain ⟨q1, q2⟩ := g4 k z (List.getElem?_eq_some_iff.1 k1).1 k1 hp
  refine ⟨q1, fun h0 => ?_⟩
  have := at_mono (a := a) (l := l) (q2 h0)
  show atN a l i ≤ j
  omega
theorem hidesD_true {nr : List Agr} {last b : Int} {c : Cas} : ∀ {ds : List Int}, ds.Pairwise (· < ·) → hidesD nr last c b ds = true → ∀ d ∈ ds, d ≤ last → findN nr (c.on d) ≠ b
  | [], _, _, d, hd, _ => by cases hd
  | x :: r, hp, h, d, hd, hl => by
    have hxr := mem_cons_pw hp
    unfold hidesD at h
    split at h
    · rcases List.mem_cons.1 hd with rfl | hd
      · omega
      · have := hxr d hd; omega
    · split at h
      · cases h
      · rename_i hne
        rcases List.mem_cons.1 hd with rfl | hd
        · exact hne
        · exact hidesD_true (List.pairwise_cons.1 hp).2 h d hd hl
theorem hidesD_false {nr : List Agr} {last b : Int} {c : Cas} : ∀ {ds : List Int}, hidesD nr last c b ds = false → ∃ d ∈ ds, d ≤ last ∧ findN nr (c.on d) = b
  | [], h => by cases h
  | x :: r, h => by
    unfold hidesD at h
    split at h
    · cases h
    · split at h
      · rename_i h1 h2
        exact ⟨x, by simp, by omega, h2⟩
      · obtain ⟨d, h1, h2, h3⟩ := hidesD_false h
        exact ⟨d, by simp [h1], h2, h3⟩
/-- The last one up to a day. -/
theorem last_le {e : Int} : ∀ (r : List Int) (x : Int), x ≤ e → (x :: r).Pairwise (· < ·) → ∃ d ∈ x :: r, d ≤ e ∧ ∀ y ∈ x :: r, d < y → e < y
  | [], x, h, _ => ⟨x, by simp, h, fun y hy hlt => by simp only [List.mem_singleton] at hy; omega⟩
  | y :: r, x, h, hp => by
    have hxr := mem_cons_pw hp
    have hp' := (List.pairwise_cons.1 hp).2
    have hyr := mem_cons_pw hp'
    by_cases hy : y ≤ e
    · obtain ⟨d, h1, h2, h3⟩ := last_le r y hy hp'
      refine ⟨d, List.mem_cons_of_mem _ h1, h2, fun z hz hlt => ?_⟩
      rcases List.mem_cons.1 hz with rfl | hz
      · have := hxr d h1; omega
      · exact h3 z hz hlt
    · refine ⟨x, by simp, h, fun z hz hlt => ?_⟩
      rcases List.mem_cons.1 hz with rfl | hz
      · omega
      · rcases List.mem_cons.1 hz with rfl | hz
        · omega
        · have := hyr z hz; omega
/-- Whatever case finds an agreement, one with a message and a version of its own finds it. -/
theorem own_finds {l : List Agr} {m v : Str} {i : Nat} {a : Agr} {c : Cas} (hm : m ∉ msgsN l) (hv : v ∉ versN l) (ha : l[i]? = some a) (h : findN l c = i) : findN l (a.cas (ownOr a.msg m) (ownOr a.ver v) c.day) = i ∧ a.first ≤ c.day ∧ c.day ≤ a.last := by
  have hb := findN_best l c
  rw [h] at hb
  obtain ⟨_, x, g2, g3, _⟩ := hb.some (by omega)
  have : (i : Int).toNat = i := rfl
  rw [this, ha] at g2
  cases g2
  obtain ⟨⟨e1, e2, e3⟩, e4, e5, e6, e7⟩ := (applies_iff a c).1 g3
  refine ⟨best_sub h ha ((applies_iff _ _).2 ⟨⟨rfl, rfl, rfl⟩, ?_, ?_, e6, e7⟩) fun x hx hp => ?_, e6, e7⟩
  · show a.msg = [] ∨ a.msg = ownOr a.msg m
    unfold ownOr; split
    · exact .inl (by assumption)
    · exact .inr rfl
  · show a.ver = [] ∨ a.ver = ownOr a.ver v
    unfold ownOr; split
    · exact .inl (by assumption)
    · exact .inr rfl
  · obtain ⟨⟨f1, f2, f3⟩, f4, f5, f6, f7⟩ := (applies_iff _ _).1 hp
    have f4 : x.msg = [] ∨ x.msg = ownOr a.msg m := f4
    have f5 : x.ver = [] ∨ x.ver = ownOr a.ver v := f5
    refine (applies_iff _ _).2 ⟨⟨f1.trans e1, f2.trans e2, f3.trans e3⟩, ?_, ?_, f6, f7⟩
    · rcases f4 with f4 | f4
      · exact .inl f4
      · by_cases h0 : a.msg = []
        · rw [ownOr, if_pos h0] at f4
          exact absurd (f4 ▸ List.mem_map_of_mem hx) hm
        · rw [ownOr, if_neg h0] at f4
          exact .inr (f4.trans (e4.resolve_left h0))
    · rcases f5 with f5 | f5
      · exact .inl f5
      · by_cases h0 : a.ver = []
        · rw [ownOr, if_pos h0] at f5
          exact absurd (f5 ▸ List.mem_map_of_mem hx) hv
        · rw [ownOr, if_neg h0] at f5
          exact .inr (f5.trans (e5.resolve_left h0))
/-- What hides is found by no case. -/
theorem hides_no {l : List Agr} {m v : Str} {i : Nat} (hm : m ∉ msgsN l) (hv : v ∉ versN l) (ho : ∀ a ∈ l, ownFaultN a = 0) (hi : i < l.length) (hh : hidesN l m v i = true) (c : Cas) : findN l c ≠ i := by
  intro h
  have ha : l[i]? = some l[i] := List.getElem?_eq_getElem hi
  have hal := ho l[i] (List.mem_of_getElem? ha)
  unfold hidesN at hh
  rw [ha] at hh
  simp only at hh
  generalize l[i] = a at *
  obtain ⟨h1, h2, h3⟩ := own_finds hm hv ha h
  obtain ⟨⟨b1, b2, b3, b4⟩, _⟩ := fit_of_own hal
  have h4 := near_find (a := a) h1 ha (by simp [akin])
  obtain ⟨r, r1, r2, r3⟩ := changeL_cons (nearL a l) a.first
  unfold hidesA at hh
  rw [r1] at hh
  obtain ⟨d, d1, d2, d3⟩ := last_le r a.first h2 r2
  have hd := hidesD_true r2 hh d d1 (by omega)
  apply hd
  rw [← h4]
  have hfd : a.first ≤ d := by
    rcases List.mem_cons.1 d1 with h | h
    · omega
    · have := mem_cons_pw r2 d h; omega
  exact find_on (l := nearL a l) (c := a.cas (ownOr a.msg m) (ownOr a.ver v) a.first) (e := c.day) hfd d2 (by omega) fun x hx hlt hle => by
    have hx' : x ∈ rawL (nearL a l) a.first := hx
    have := d3 x (List.mem_cons_of_mem _ ((r3 x).2 ⟨hx', by omega⟩)) hlt
    omega
end Go.Proofs.YthbhjladfniboaaGreatDoor
namespace Go.Proofs.YthbhjladfniboaaGreatDoor
set_option linter.unusedSimpArgs false
set_option linter.unusedVariables false
open Go.RowKit
set_option maxRecDepth 100000
set_option maxHeartbeats 1000000

theorem never1_sem (a : Agr) : Sem Tryz.prog 27 [a.d] (.str a.msg) := by
  refine sem_intro (M := fun t => mem t [1000052, 1000053]) hT hM Tryz.func27 inferInstance rfl rfl rfl rfl rfl rfl ?_
  repeat' (
    (conv => whnf)
    first
      | ((try ((first | with_reducible apply NumE.go | with_reducible apply IdxE.go | with_reducible apply TextE.go | with_reducible apply LookE.go | with_reducible apply CallE.go); (conv => whnf))); (with_reducible apply SideD.mk); (focus (first | exact idx_nat (by assumption) | exact idx_some (by omega) (by assumption) | exact idx_eq (by assumption) (by omega) | exact IntWalk.i64_in _ (by omega) | exact IntWalk.u8_in _ (by omega) | exact IntWalk.u64_in _ (by omega) | exact IntWalk.i32_in _ (by omega) | exact rfl | exact ⟨by omega, rfl⟩ | exact ⟨rfl, rfl⟩ | assumption | exact ⟨by omega, by omega⟩ | exact ⟨by omega, by simp; omega⟩ | omega | exact ⟨rfl, rfl, by simp only [List.length_map, List.length_append, List.length_cons, List.length_nil]; omega⟩ | exact ⟨rfl, rfl, by simp; omega⟩ | exact ⟨rfl, rfl, by omega⟩ | exact ⟨rfl, by simp; omega⟩ | exact id | (intro h; simp [h]; done) | ((repeat (first | exact trivial | exact rfl | apply And.intro)); done) | (simp; omega) | (refine ⟨?_, ?_, ?_⟩ <;> first | omega | (simp; done) | (simp; omega)) | (simp_all; done))))
      | ((first | with_reducible apply DrawR.go0 | with_reducible apply KerB.mk); (focus kernel_rfl))
      | (first | with_reducible apply ends_ret | with_reducible apply ends_norm | with_reducible apply Halt'.mk)
      | ((with_reducible apply CondD.mk) <;> intro hb <;> (try simp only [SPLT] at hb) <;> (try first | contradiction | exact absurd hb (by assumption) | exact absurd (by assumption) hb | (exfalso; omega))))
  all_goals (try exact (false : Bool))
  repeat' ((conv => whnf); first | exact trivial | with_reducible apply And.intro | with_reducible apply endsO_ret | with_reducible apply endsO_norm | exact DLes.nil | with_reducible exact DLe.refl _ | exact DLe.any _ | with_reducible apply DLes.cons | with_reducible exact rle_refl | exact rle_bool rfl | exact rle_int rfl | exact rle_nil rfl | exact rle_sl0 rfl)
  all_goals (conv => whnf)
theorem never2_sem (a : Agr) : Sem Tryz.prog 28 [a.d] (.str a.ver) := by
  refine sem_intro (M := fun t => mem t [1000052, 1000053]) hT hM Tryz.func28 inferInstance rfl rfl rfl rfl rfl rfl ?_
  repeat' (
    (conv => whnf)
    first
      | ((try ((first | with_reducible apply NumE.go | with_reducible apply IdxE.go | with_reducible apply TextE.go | with_reducible apply LookE.go | with_reducible apply CallE.go); (conv => whnf))); (with_reducible apply SideD.mk); (focus (first | exact idx_nat (by assumption) | exact idx_some (by omega) (by assumption) | exact idx_eq (by assumption) (by omega) | exact IntWalk.i64_in _ (by omega) | exact IntWalk.u8_in _ (by omega) | exact IntWalk.u64_in _ (by omega) | exact IntWalk.i32_in _ (by omega) | exact rfl | exact ⟨by omega, rfl⟩ | exact ⟨rfl, rfl⟩ | assumption | exact ⟨by omega, by omega⟩ | exact ⟨by omega, by simp; omega⟩ | omega | exact ⟨rfl, rfl, by simp only [List.length_map, List.length_append, List.length_cons, List.length_nil]; omega⟩ | exact ⟨rfl, rfl, by simp; omega⟩ | exact ⟨rfl, rfl, by omega⟩ | exact ⟨rfl, by simp; omega⟩ | exact id | (intro h; simp [h]; done) | ((repeat (first | exact trivial | exact rfl | apply And.intro)); done) | (simp; omega) | (refine ⟨?_, ?_, ?_⟩ <;> first | omega | (simp; done) | (simp; omega)) | (simp_all; done))))
      | ((first | with_reducible apply DrawR.go0 | with_reducible apply KerB.mk); (focus kernel_rfl))
      | (first | with_reducible apply ends_ret | with_reducible apply ends_norm | with_reducible apply Halt'.mk)
      | ((with_reducible apply CondD.mk) <;> intro hb <;> (try simp only [SPLT] at hb) <;> (try first | contradiction | exact absurd hb (by assumption) | exact absurd (by assumption) hb | (exfalso; omega))))
  all_goals (try exact (false : Bool))
  repeat' ((conv => whnf); first | exact trivial | with_reducible apply And.intro | with_reducible apply endsO_ret | with_reducible apply endsO_norm | exact DLes.nil | with_reducible exact DLe.refl _ | exact DLe.any _ | with_reducible apply DLes.cons | with_reducible exact rle_refl | exact rle_bool rfl | exact rle_int rfl | exact rle_nil rfl | exact rle_sl0 rfl)
  all_goals (conv => whnf)
theorem withOwn_sem (s t : Str) : Sem Tryz.prog 62 [.str s, .str t] (.str (ownOr s t)) := by
  refine sem_intro (M := fun t => mem t [1000052, 1000053]) hT hM Tryz.func62 inferInstance rfl rfl rfl rfl rfl rfl ?_
  repeat' (
    (conv => whnf)
    first
      | ((try ((first | with_reducible apply NumE.go | with_reducible apply IdxE.go | with_reducible apply TextE.go | with_reducible apply LookE.go | with_reducible apply CallE.go); (conv => whnf))); (with_reducible apply SideD.mk); (focus (first | exact idx_nat (by assumption) | exact idx_some (by omega) (by assumption) | exact idx_eq (by assumption) (by omega) | exact IntWalk.i64_in _ (by omega) | exact IntWalk.u8_in _ (by omega) | exact IntWalk.u64_in _ (by omega) | exact IntWalk.i32_in _ (by omega) | exact rfl | exact ⟨by omega, rfl⟩ | exact ⟨rfl, rfl⟩ | assumption | exact ⟨by omega, by omega⟩ | exact ⟨by omega, by simp; omega⟩ | omega | exact ⟨rfl, rfl, by simp only [List.length_map, List.length_append, List.length_cons, List.length_nil]; omega⟩ | exact ⟨rfl, rfl, by simp; omega⟩ | exact ⟨rfl, rfl, by omega⟩ | exact ⟨rfl, by simp; omega⟩ | exact id | (intro h; simp [h]; done) | ((repeat (first | exact trivial | exact rfl | apply And.intro)); done) | (simp; omega) | (refine ⟨?_, ?_, ?_⟩ <;> first | omega | (simp; done) | (simp; omega)) | (simp_all; done))))
      | ((first | with_reducible apply DrawR.go0 | with_reducible apply KerB.mk); (focus kernel_rfl))
      | (first | with_reducible apply ends_ret | with_reducible apply ends_norm | with_reducible apply Halt'.mk)
      | ((with_reducible apply CondD.mk) <;> intro hb <;> (try simp only [SPLT] at hb) <;> (try first | contradiction | exact absurd hb (by assumption) | exact absurd (by assumption) hb | (exfalso; omega))))
  all_goals (try exact (false : Bool))
  · repeat' ((conv => whnf); first | exact trivial | with_reducible apply And.intro | with_reducible apply endsO_ret | with_reducible apply endsO_norm | exact DLes.nil | with_reducible exact DLe.refl _ | exact DLe.any _ | with_reducible apply DLes.cons | with_reducible exact rle_refl | exact rle_bool rfl | exact rle_int rfl | exact rle_nil rfl | exact rle_sl0 rfl)
    all_goals (conv => whnf)
    exact rle_str (by rw [ownOr, if_neg hb])
  · repeat' ((conv => whnf); first | exact trivial | with_reducible apply And.intro | with_reducible apply endsO_ret | with_reducible apply endsO_norm | exact DLes.nil | with_reducible exact DLe.refl _ | exact DLe.any _ | with_reducible apply DLes.cons | with_reducible exact rle_refl | exact rle_bool rfl | exact rle_int rfl | exact rle_nil rfl | exact rle_sl0 rfl)
    all_goals (conv => whnf)
    exact rle_str (by rw [ownOr, if_pos hb])
theorem other1_sem (f : Nat) (g : Agr → Str) (s : Str) (a : Agr) (hf : Sem Tryz.prog f [a.d] (.str (g a))) : Sem Tryz.prog 61 [a.d, .ptr [.fn f []], .ptr [.str s]] (.bool (g a == s)) := by
  refine sem_intro (M := fun t => mem t [1000052, 1000053]) hT hM Tryz.func61 inferInstance rfl rfl rfl rfl rfl rfl ?_
  repeat' (
    (conv => whnf)
    first
      | ((try ((first | with_reducible apply NumE.go | with_reducible apply IdxE.go | with_reducible apply TextE.go | with_reducible apply LookE.go | with_reducible apply CallE.go); (conv => whnf))); (with_reducible apply SideD.mk); (focus (first | exact idx_nat (by assumption) | exact idx_some (by omega) (by assumption) | exact idx_eq (by assumption) (by omega) | ((try apply givesl); (focus (((apply gives_go (hf)); (focus (first | exact DLes.refl _ | (repeat (first | exact DLes.nil | ((apply DLes.cons); (focus (first | exact DLe.refl _ | exact DLe.own _ _ | exact DLe.nil _ _ | exact DLe.any _))))))); (focus exact rfl); (all_goals (first | exact rfl | assumption | omega | (simp; omega) | (simp; done)))))); (all_goals exact rfl)) | exact IntWalk.i64_in _ (by omega) | exact IntWalk.u8_in _ (by omega) | exact IntWalk.u64_in _ (by omega) | exact IntWalk.i32_in _ (by omega) | exact rfl | exact ⟨by omega, rfl⟩ | exact ⟨rfl, rfl⟩ | assumption | exact ⟨by omega, by omega⟩ | exact ⟨by omega, by simp; omega⟩ | omega | exact ⟨rfl, rfl, by simp only [List.length_map, List.length_append, List.length_cons, List.length_nil]; omega⟩ | exact ⟨rfl, rfl, by simp; omega⟩ | exact ⟨rfl, rfl, by omega⟩ | exact ⟨rfl, by simp; omega⟩ | exact id | (intro h; simp [h]; done) | ((repeat (first | exact trivial | exact rfl | apply And.intro)); done) | (simp; omega) | (refine ⟨?_, ?_, ?_⟩ <;> first | omega | (simp; done) | (simp; omega)) | (simp_all; done))))
      | ((first | with_reducible apply DrawR.go0 | with_reducible apply KerB.mk); (focus kernel_rfl))
      | (first | with_reducible apply ends_ret | with_reducible apply ends_norm | with_reducible apply Halt'.mk)
      | ((with_reducible apply CondD.mk) <;> intro hb <;> (try simp only [SPLT] at hb) <;> (try first | contradiction | exact absurd hb (by assumption) | exact absurd (by assumption) hb | (exfalso; omega))))
  all_goals (try exact (false : Bool))
  repeat' ((conv => whnf); first | exact trivial | with_reducible apply And.intro | with_reducible apply endsO_ret | with_reducible apply endsO_norm | exact DLes.nil | with_reducible exact DLe.refl _ | exact DLe.any _ | with_reducible apply DLes.cons | with_reducible exact rle_refl | exact rle_bool rfl | exact rle_int rfl | exact rle_nil rfl | exact rle_sl0 rfl)
  all_goals (conv => whnf)
/-- The first one of which it is true. -/
def idxF (q : Agr → Bool) : List Agr → Int → Int
  | [], _ => -1
  | a :: r, k => if q a = true then k else idxF q r (k + 1)
theorem idxF_any (q : Agr → Bool) : ∀ (l : List Agr) (k : Int), 0 ≤ k → decide (0 ≤ idxF q l k) = l.any q
  | [], k, _ => rfl
  | a :: r, k, h => by
    rw [List.any_cons, idxF]
    by_cases ha : q a = true
    · rw [if_pos ha, ha]; simpa using h
    · rw [if_neg ha, idxF_any q r (k + 1) (by omega)]
      simp [ha]
theorem idxF_at {q : Agr → Bool} {l : List Agr} {k : Nat} {a : Agr} (h : l[k]? = some a) : idxF q (l.drop k) k = if q a = true then (k : Int) else idxF q (l.drop (k + 1)) ((k + 1 : Nat) : Int) := by
  rw [drop_at h]
  rfl
theorem indexFunc_sem (l : List Agr) (f : Nat) (s : Str) (q : Agr → Bool) (hl : l.length ≤ 1000000) (hq : ∀ a ∈ l, Sem Tryz.prog 61 [a.d, .ptr [.fn f []], .ptr [.str s]] (.bool (q a))) : Sem Tryz.prog 97 [.sl 0 9 (l.map Agr.row), .fn 61 [.ptr [.fn f []], .ptr [.str s]]] (.int .i64 (idxF q l 0)) := by
  refine sem_intro (M := fun t => mem t [1000052, 1000053]) hT hM Tryz.func97 inferInstance rfl rfl rfl rfl rfl rfl ?_
  repeat' (
    (conv => whnf)
    first
      | ((try ((first | with_reducible apply NumE.go | with_reducible apply IdxE.go | with_reducible apply TextE.go | with_reducible apply LookE.go | with_reducible apply CallE.go); (conv => whnf))); (with_reducible apply SideD.mk); (focus (first | exact idx_nat (by assumption) | exact idx_some (by omega) (by assumption) | exact idx_eq (by assumption) (by omega) | exact IntWalk.i64_in _ (by omega) | exact IntWalk.u8_in _ (by omega) | exact IntWalk.u64_in _ (by omega) | exact IntWalk.i32_in _ (by omega) | exact rfl | exact ⟨by omega, rfl⟩ | exact ⟨rfl, rfl⟩ | assumption | exact ⟨by omega, by omega⟩ | exact ⟨by omega, by simp; omega⟩ | omega | exact ⟨rfl, rfl, by simp only [List.length_map, List.length_append, List.length_cons, List.length_nil]; omega⟩ | exact ⟨rfl, rfl, by simp; omega⟩ | exact ⟨rfl, rfl, by omega⟩ | exact ⟨rfl, by simp; omega⟩ | exact id | (intro h; simp [h]; done) | ((repeat (first | exact trivial | exact rfl | apply And.intro)); done) | (simp; omega) | (refine ⟨?_, ?_, ?_⟩ <;> first | omega | (simp; done) | (simp; omega)) | (simp_all; done))))
      | ((first | with_reducible apply DrawR.go0 | with_reducible apply KerB.mk); (focus kernel_rfl))
      | (first | with_reducible apply ends_ret | with_reducible apply ends_norm | with_reducible apply Halt'.mk)
      | ((with_reducible apply CondD.mk) <;> intro hb <;> (try simp only [SPLT] at hb) <;> (try first | contradiction | exact absurd hb (by assumption) | exact absurd (by assumption) hb | (exfalso; omega))))
  all_goals (try exact (false : Bool))
  refine loop_go (M := fun t => mem t [1000052, 1000053]) hT hM (fun k : Nat => [(8, .int .i64 k)]) (fun k => k ≤ l.length ∧ idxF q (l.drop k) k = idxF q l 0) (fun k => l.length - k) (0) ?_ ?_ ?_
  · (conv => whnf)
    refine ⟨?_, by rfl⟩
    repeat' ((conv => whnf); first | exact DLes.nil | with_reducible exact DLe.refl _ | exact DLe.any _ | with_reducible apply DLes.cons | exact DLe.refl _ | exact dle_int (by omega) | exact dle_nil rfl | exact DLe.own _ _)
  · exact ⟨Nat.zero_le _, rfl⟩
  · rintro k ⟨hk, hi⟩
    rcases hx : l[k]? with _ | a
    · have hk' : k = l.length := by have := List.getElem?_eq_none_iff.1 hx; omega
      subst hk'
      rw [List.drop_length] at hi
      repeat' (
        (conv => whnf)
        first
          | ((try ((first | with_reducible apply NumE.go | with_reducible apply IdxE.go | with_reducible apply TextE.go | with_reducible apply LookE.go | with_reducible apply CallE.go); (conv => whnf))); (with_reducible apply SideD.mk); (focus (first | exact idx_nat (by assumption) | exact idx_some (by omega) (by assumption) | exact idx_eq (by assumption) (by omega) | exact IntWalk.i64_in _ (by omega) | exact IntWalk.u8_in _ (by omega) | exact IntWalk.u64_in _ (by omega) | exact IntWalk.i32_in _ (by omega) | exact rfl | exact ⟨by omega, rfl⟩ | exact ⟨rfl, rfl⟩ | assumption | exact ⟨by omega, by omega⟩ | exact ⟨by omega, by simp; omega⟩ | omega | exact ⟨rfl, rfl, by simp only [List.length_map, List.length_append, List.length_cons, List.length_nil]; omega⟩ | exact ⟨rfl, rfl, by simp; omega⟩ | exact ⟨rfl, rfl, by omega⟩ | exact ⟨rfl, by simp; omega⟩ | exact id | (intro h; simp [h]; done) | ((repeat (first | exact trivial | exact rfl | apply And.intro)); done) | (simp; omega) | (refine ⟨?_, ?_, ?_⟩ <;> first | omega | (simp; done) | (simp; omega)) | (simp_all; done))))
          | ((first | with_reducible apply DrawR.go0 | with_reducible apply KerB.mk); (focus kernel_rfl))
          | (first | with_reducible apply ends_ret | with_reducible apply ends_norm | with_reducible apply Halt'.mk)
          | ((with_reducible apply CondD.mk) <;> intro hb <;> (try simp only [SPLT] at hb) <;> (try first | contradiction | exact absurd hb (by assumption) | exact absurd (by assumption) hb | (exfalso; omega))))
      all_goals (try exact (false : Bool))
      repeat' ((conv => whnf); first | exact trivial | with_reducible apply And.intro | with_reducible apply endsO_ret | with_reducible apply endsO_norm | exact DLes.nil | with_reducible exact DLe.refl _ | exact DLe.any _ | with_reducible apply DLes.cons | with_reducible exact rle_refl | exact rle_bool rfl | exact rle_int rfl | exact rle_nil rfl | exact rle_sl0 rfl)
      all_goals (conv => whnf)
      exact rle_int hi
    · have hlt := (List.getElem?_eq_some_iff.1 hx).1
      rw [idxF_at hx] at hi
      repeat' (
        (conv => whnf)
        first
          | ((try ((first | with_reducible apply NumE.go | with_reducible apply IdxE.go | with_reducible apply TextE.go | with_reducible apply LookE.go | with_reducible apply CallE.go); (conv => whnf))); (with_reducible apply SideD.mk); (focus (first | exact idx_nat (by assumption) | exact idx_some (by omega) (by assumption) | exact idx_eq (by assumption) (by omega) | ((try apply givesl); (focus (((apply gives_go (hq _ (List.mem_of_getElem? hx))); (focus (first | exact DLes.refl _ | (repeat (first | exact DLes.nil | ((apply DLes.cons); (focus (first | exact DLe.refl _ | exact DLe.own _ _ | exact DLe.nil _ _ | exact DLe.any _))))))); (focus exact rfl); (all_goals (first | exact rfl | assumption | omega | (simp; omega) | (simp; done)))))); (all_goals exact rfl)) | exact IntWalk.i64_in _ (by omega) | exact IntWalk.u8_in _ (by omega) | exact IntWalk.u64_in _ (by omega) | exact IntWalk.i32_in _ (by omega) | exact rfl | exact ⟨by omega, rfl⟩ | exact ⟨rfl, rfl⟩ | assumption | exact ⟨by omega, by omega⟩ | exact ⟨by omega, by simp; omega⟩ | omega | exact ⟨rfl, rfl, by simp only [List.length_map, List.length_append, List.length_cons, List.length_nil]; omega⟩ | exact ⟨rfl, rfl, by simp; omega⟩ | exact ⟨rfl, rfl, by omega⟩ | exact ⟨rfl, by simp; omega⟩ | exact id | (intro h; simp [h]; done) | ((repeat (first | exact trivial | exact rfl | apply And.intro)); done) | (simp; omega) | (refine ⟨?_, ?_, ?_⟩ <;> first | omega | (simp; done) | (simp; omega)) | (simp_all; done))))
          | ((first | with_reducible apply DrawR.go0 | with_reducible apply KerB.mk); (focus kernel_rfl))
          | (first | with_reducible apply ends_ret | with_reducible apply ends_norm | with_reducible apply Halt'.mk)
          | ((with_reducible apply CondD.mk) <;> intro hb <;> (try simp only [SPLT] at hb) <;> (try first | contradiction | exact absurd hb (by assumption) | exact absurd (by assumption) hb | (exfalso; omega))))
      all_goals (try exact (false : Bool))
      · repeat' ((conv => whnf); first | exact trivial | with_reducible apply And.intro | with_reducible apply endsO_ret | with_reducible apply endsO_norm | exact DLes.nil | with_reducible exact DLe.refl _ | exact DLe.any _ | with_reducible apply DLes.cons | with_reducible exact rle_refl | exact rle_bool rfl | exact rle_int rfl | exact rle_nil rfl | exact rle_sl0 rfl)
        all_goals (conv => whnf)
        exact rle_int (by rw [← hi, if_pos hb])
      · refine ⟨k + 1, ⟨by omega, by rw [← hi, if_neg (by simp [hb])]⟩, by omega, ?_⟩
        (conv => whnf)
        refine ⟨?_, by rfl⟩
        repeat' ((conv => whnf); first | exact DLes.nil | with_reducible exact DLe.refl _ | exact DLe.any _ | with_reducible apply DLes.cons | exact DLe.refl _ | exact dle_int (by omega) | exact dle_nil rfl | exact DLe.own _ _)
theorem containsFunc_sem (l : List Agr) (f : Nat) (s : Str) (q : Agr → Bool) (hl : l.length ≤ 1000000) (hq : ∀ a ∈ l, Sem Tryz.prog 61 [a.d, .ptr [.fn f []], .ptr [.str s]] (.bool (q a))) : Sem Tryz.prog 60 [.sl 0 9 (l.map Agr.row), .fn 61 [.ptr [.fn f []], .ptr [.str s]]] (.bool (l.any q)) := by
  have hI := indexFunc_sem l f s q hl hq
  refine sem_intro (M := fun t => mem t [1000052, 1000053]) hT hM Tryz.func60 inferInstance rfl rfl rfl rfl rfl rfl ?_
  repeat' (
    (conv => whnf)
    first
      | ((try ((first | with_reducible apply NumE.go | with_reducible apply IdxE.go | with_reducible apply TextE.go | with_reducible apply LookE.go | with_reducible apply CallE.go); (conv => whnf))); (with_reducible apply SideD.mk); (focus (first | exact idx_nat (by assumption) | exact idx_some (by omega) (by assumption) | exact idx_eq (by assumption) (by omega) | ((try apply givesl); (focus (first | ((apply gives_go (hI)); (focus (first | exact DLes.refl _ | (repeat (first | exact DLes.nil | ((apply DLes.cons); (focus (first | exact DLe.refl _ | exact DLe.own _ _ | exact DLe.nil _ _ | exact DLe.any _))))))); (focus exact rfl); (all_goals (first | exact rfl | assumption | omega | (simp; omega) | (simp; done)))) | ((apply gives_go (indexFunc_sem _ _ _ _ _ _)); (focus (first | exact DLes.refl _ | (repeat (first | exact DLes.nil | ((apply DLes.cons); (focus (first | exact DLe.refl _ | exact DLe.own _ _ | exact DLe.nil _ _ | exact DLe.any _))))))); (focus exact rfl); (all_goals (first | exact rfl | assumption | omega | (simp; omega) | (simp; done)))))); (all_goals exact rfl)) | exact IntWalk.i64_in _ (by omega) | exact IntWalk.u8_in _ (by omega) | exact IntWalk.u64_in _ (by omega) | exact IntWalk.i32_in _ (by omega) | exact rfl | exact ⟨by omega, rfl⟩ | exact ⟨rfl, rfl⟩ | assumption | exact ⟨by omega, by omega⟩ | exact ⟨by omega, by simp; omega⟩ | omega | exact ⟨rfl, rfl, by simp only [List.length_map, List.length_append, List.length_cons, List.length_nil]; omega⟩ | exact ⟨rfl, rfl, by simp; omega⟩ | exact ⟨rfl, rfl, by omega⟩ | exact ⟨rfl, by simp; omega⟩ | exact id | (intro h; simp [h]; done) | ((repeat (first | exact trivial | exact rfl | apply And.intro)); done) | (simp; omega) | (refine ⟨?_, ?_, ?_⟩ <;> first | omega | (simp; done) | (simp; omega)) | (simp_all; done))))
      | ((first | with_reducible apply DrawR.go0 | with_reducible apply KerB.mk); (focus kernel_rfl))
      | (first | with_reducible apply ends_ret | with_reducible apply ends_norm | with_reducible apply Halt'.mk)
      | ((with_reducible apply CondD.mk) <;> intro hb <;> (try simp only [SPLT] at hb) <;> (try first | contradiction | exact absurd hb (by assumption) | exact absurd (by assumption) hb | (exfalso; omega))))
  all_goals (try exact (false : Bool))
  repeat' ((conv => whnf); first | exact trivial | with_reducible apply And.intro | with_reducible apply endsO_ret | with_reducible apply endsO_norm | exact DLes.nil | with_reducible exact DLe.refl _ | exact DLe.any _ | with_reducible apply DLes.cons | with_reducible exact rle_refl | exact rle_bool rfl | exact rle_int rfl | exact rle_nil rfl | exact rle_sl0 rfl)
  all_goals (conv => whnf)
  exact rle_bool (idxF_any q l 0 (by omega))
theorem zs_next (k : Nat) : zs k ++ [122] = zs (k + 1) := by
  unfold zs
  rw [List.replicate_succ' (n := k + 1)]
theorem other_sem (l : List Agr) (f : Nat) (g : Agr → Str) (hl : l.length ≤ 1000000) (hf : ∀ a ∈ l, Sem Tryz.prog f [a.d] (.str (g a))) : Sem Tryz.prog 26 [.sl 0 9 (l.map Agr.row), .fn f []] (.str (otherN (l.map g))) := by
  have hC : ∀ k, Sem Tryz.prog 60 [.sl 0 9 (l.map Agr.row), .fn 61 [.ptr [.fn f []], .ptr [.str (zs k)]]] (.bool (l.any fun a => g a == zs k)) := fun k => containsFunc_sem l f (zs k) _ hl fun a ha => other1_sem f g (zs k) a (hf a ha)
  have hmem : ∀ k, (l.any fun a => g a == zs k) = true ↔ zs k ∈ l.map g := fun k => by
    rw [List.any_eq_true]
    simp only [beq_iff_eq, List.mem_map]
  have hlen : (l.map g).length = l.length := List.length_map _
  have hzl : ∀ k, (zs k).length = k + 1 := fun k => List.length_replicate
  unfold otherN
  refine sem_intro (M := fun t => mem t [5, 1000052, 1000053]) hT hM Tryz.func26 inferInstance rfl rfl rfl rfl rfl rfl ?_
  repeat' (
    (conv => whnf)
    first
      | ((try ((first | with_reducible apply NumE.go | with_reducible apply IdxE.go | with_reducible apply TextE.go | with_reducible apply LookE.go | with_reducible apply CallE.go); (conv => whnf))); (with_reducible apply SideD.mk); (focus (first | exact idx_nat (by assumption) | exact idx_some (by omega) (by assumption) | exact idx_eq (by assumption) (by omega) | ((try apply givesl); (focus (((apply gives_go (containsFunc_sem _ _ _ _ _ _)); (focus (first | exact DLes.refl _ | (repeat (first | exact DLes.nil | ((apply DLes.cons); (focus (first | exact DLe.refl _ | exact DLe.own _ _ | exact DLe.nil _ _ | exact DLe.any _))))))); (focus exact rfl); (all_goals (first | exact rfl | assumption | omega | (simp; omega) | (simp; done)))))); (all_goals exact rfl)) | exact IntWalk.i64_in _ (by omega) | exact IntWalk.u8_in _ (by omega) | exact IntWalk.u64_in _ (by omega) | exact IntWalk.i32_in _ (by omega) | exact rfl | exact ⟨by omega, rfl⟩ | exact ⟨rfl, rfl⟩ | assumption | exact ⟨by omega, by omega⟩ | exact ⟨by omega, by simp; omega⟩ | omega | exact ⟨rfl, rfl, by simp only [List.length_map, List.length_append, List.length_cons, List.length_nil]; omega⟩ | exact ⟨rfl, rfl, by simp; omega⟩ | exact ⟨rfl, rfl, by omega⟩ | exact ⟨rfl, by simp; omega⟩ | exact id | (intro h; simp [h]; done) | ((repeat (first | exact trivial | exact rfl | apply And.intro)); done) | (simp; omega) | (refine ⟨?_, ?_, ?_⟩ <;> first | omega | (simp; done) | (simp; omega)) | (simp_all; done))))
      | ((first | with_reducible apply DrawR.go0 | with_reducible apply KerB.mk); (focus kernel_rfl))
      | (first | with_reducible apply ends_ret | with_reducible apply ends_norm | with_reducible apply Halt'.mk)
      | ((with_reducible apply CondD.mk) <;> intro hb <;> (try simp only [SPLT] at hb) <;> (try first | contradiction | exact absurd hb (by assumption) | exact absurd (by assumption) hb | (exfalso; omega))))
  all_goals (try exact (false : Bool))
  refine loop_go (M := fun t => mem t [5, 1000052, 1000053]) hT hM (fun k : Nat => [(5, .obj [.str (zs k)])]) (fun k => k ≤ l.length ∧ (∀ j, j < k → zs j ∈ l.map g) ∧ otherK (l.map g) ((l.map g).length - k) k = otherK (l.map g) (l.map g).length 0) (fun k => l.length + 1 - k) (0) ?_ ?_ ?_
  · (conv => whnf)
    refine ⟨?_, by rfl⟩
    repeat' ((conv => whnf); first | exact DLes.nil | with_reducible exact DLe.refl _ | exact DLe.any _ | with_reducible apply DLes.cons | exact DLe.refl _ | exact dle_int (by omega) | exact dle_nil rfl | exact DLe.own _ _)
  · exact ⟨Nat.zero_le _, fun j hj => by omega, rfl⟩
  · rintro k ⟨hk, hj, he⟩
    have hz := hzl k
    repeat' (
      (conv => whnf)
      first
        | ((try ((first | with_reducible apply NumE.go | with_reducible apply IdxE.go | with_reducible apply TextE.go | with_reducible apply LookE.go | with_reducible apply CallE.go); (conv => whnf))); (with_reducible apply SideD.mk); (focus (first | exact idx_nat (by assumption) | exact idx_some (by omega) (by assumption) | exact idx_eq (by assumption) (by omega) | ((try apply givesl); (focus (first | ((apply gives_go (hC k)); (focus (first | exact DLes.refl _ | (repeat (first | exact DLes.nil | ((apply DLes.cons); (focus (first | exact DLe.refl _ | exact DLe.own _ _ | exact DLe.nil _ _ | exact DLe.any _))))))); (focus exact rfl); (all_goals (first | exact rfl | assumption | omega | (simp; omega) | (simp; done)))) | ((apply gives_go (containsFunc_sem _ _ _ _ _ _)); (focus (first | exact DLes.refl _ | (repeat (first | exact DLes.nil | ((apply DLes.cons); (focus (first | exact DLe.refl _ | exact DLe.own _ _ | exact DLe.nil _ _ | exact DLe.any _))))))); (focus exact rfl); (all_goals (first | exact rfl | assumption | omega | (simp; omega) | (simp; done)))))); (all_goals exact rfl)) | exact IntWalk.i64_in _ (by omega) | exact IntWalk.u8_in _ (by omega) | exact IntWalk.u64_in _ (by omega) | exact IntWalk.i32_in _ (by omega) | exact rfl | exact ⟨by omega, rfl⟩ | exact ⟨rfl, rfl⟩ | assumption | exact ⟨by omega, by omega⟩ | exact ⟨by omega, by simp; omega⟩ | omega | exact ⟨rfl, rfl, by simp only [List.length_map, List.length_append, List.length_cons, List.length_nil]; omega⟩ | exact ⟨rfl, rfl, by simp; omega⟩ | exact ⟨rfl, rfl, by omega⟩ | exact ⟨rfl, by simp; omega⟩ | exact id | (intro h; simp [h]; done) | ((repeat (first | exact trivial | exact rfl | apply And.intro)); done) | (simp; omega) | (refine ⟨?_, ?_, ?_⟩ <;> first | omega | (simp; done) | (simp; omega)) | (simp_all; done))))
        | ((first | with_reducible apply DrawR.go0 | with_reducible apply KerB.mk); (focus kernel_rfl))
        | (first | with_reducible apply ends_ret | with_reducible apply ends_norm | with_reducible apply Halt'.mk)
        | ((with_reducible apply CondD.mk) <;> intro hb <;> (try simp only [SPLT] at hb) <;> (try first | contradiction | exact absurd hb (by assumption) | exact absurd (by assumption) hb | (exfalso; omega))))
    all_goals (try exact (false : Bool))
    · have hm := (hmem k).1 (by simpa using hb)
      obtain ⟨h1, h2⟩ := other_next hm hj
      refine ⟨k + 1, ⟨by omega, fun j hj' => ?_, by rw [← he, h2]⟩, by omega, ?_⟩
      · by_cases hjk : j = k
        · subst hjk; exact hm
        · exact hj j (by omega)
      · (conv => whnf)
        refine ⟨?_, by rfl⟩
        repeat' ((conv => whnf); first | exact DLes.nil | with_reducible exact DLe.refl _ | exact DLe.any _ | with_reducible apply DLes.cons | exact DLe.refl _ | exact dle_int (by omega) | exact dle_nil rfl | exact DLe.own _ _ | (exact DLe.of_eq (by rw [zs_next])))
    · have hm : zs k ∉ l.map g := fun h => by have := (hmem k).2 h; simp_all
      repeat' ((conv => whnf); first | exact trivial | with_reducible apply And.intro | with_reducible apply endsO_ret | with_reducible apply endsO_norm | exact DLes.nil | with_reducible exact DLe.refl _ | exact DLe.any _ | with_reducible apply DLes.cons | with_reducible exact rle_refl | exact rle_bool rfl | exact rle_int rfl | exact rle_nil rfl | exact rle_sl0 rfl)
      all_goals (conv => whnf)
      exact rle_str (by rw [← he, other_end hm])
end Go.Proofs.YthbhjladfniboaaGreatDoor
namespace Go.Proofs.YthbhjladfniboaaGreatDoor
set_option linter.unusedSimpArgs false
set_option linter.unusedVariables false
open Go.RowKit
set_option maxRecDepth 100000
set_option maxHeartbeats 1000000

theorem hides_sem (l : List Agr) (i : Nat) (m v : Str) (a : Agr) (ha : l[i]? = some a) (hl : l.length ≤ 1000000) (ho : ∀ a ∈ l, ownFaultN a = 0) : Sem Tryz.prog 29 [.sl 0 9 (l.map Agr.row), .int .i64 i, .str m, .str v] (.bool (hidesA l m v i a)) := by
  have hil := (List.getElem?_eq_some_iff.1 ha).1
  have hnr : (nearL a l).length ≤ l.length := List.length_filter_le _ _
  have hno : ∀ x ∈ nearL a l, ownFaultN x = 0 := fun x hx => ho x (List.mem_filter.1 hx).1
  obtain ⟨⟨b1, b2, b3, b4⟩, _⟩ := fit_of_own (ho a (List.mem_of_getElem? ha))
  have hcl : (changeL (nearL a l) a.first).length ≤ 3000000 := by
    have h1 : (changeL (nearL a l) a.first).length ≤ (rawL (nearL a l) a.first).length := compact_len _
    have h2 := flat_len a.first (nearL a l)
    simp only [rawL, List.length_cons] at h1
    omega
  have hfl : ∀ k, (nearL a (l.take k)).length ≤ l.length := fun k => by
    have h1 : (nearL a (l.take k)).length ≤ (l.take k).length := List.length_filter_le _ _
    rw [List.length_take] at h1
    omega
  have hds : ∀ d ∈ changeL (nearL a l) a.first, 0 ≤ d ∧ d ≤ 3652059 := fun d hd => by
    rcases rawL_mem.1 ((distinct_mem _ _).1 hd) with e | ⟨x, _, _, h1, h2⟩ <;> omega
  refine sem_intro (M := fun t => mem t [13, 2000013, 1000052, 1000053]) hT hM Tryz.func29 inferInstance rfl rfl rfl rfl rfl rfl ?_
  repeat' (
    (conv => whnf)
    first
      | ((try ((first | with_reducible apply NumE.go | with_reducible apply IdxE.go | with_reducible apply TextE.go | with_reducible apply LookE.go | with_reducible apply CallE.go); (conv => whnf))); (with_reducible apply SideD.mk); (focus ((first | (intro hc; have hc0 := hc; (try simp only [SPLT] at hc); (try refine And.intro (by first | exact hc0 | exact ⟨hc0, hc0⟩ | exact ⟨hc0, hc0, hc0⟩) ?_)) | skip); first | exact idx_nat (by assumption) | exact idx_some (by omega) (by assumption) | exact idx_eq (by assumption) (by omega) | ((try apply givesl); (focus (((first | apply gives_go (withOwn_sem _ _) | apply gives_go (changes_sem _ _ _ _) | apply gives_go (find_sem _ _ _ _)); (focus (first | exact DLes.refl _ | (repeat (first | exact DLes.nil | ((apply DLes.cons); (focus (first | exact DLe.refl _ | exact DLe.own _ _ | exact DLe.nil _ _ | exact DLe.any _))))))); (focus exact rfl); (all_goals (first | exact rfl | assumption | omega | (simp; omega) | (simp; done)))))); (all_goals exact rfl)) | exact IntWalk.i64_in _ (by omega) | exact IntWalk.u8_in _ (by omega) | exact IntWalk.u64_in _ (by omega) | exact IntWalk.i32_in _ (by omega) | exact rfl | exact ⟨by omega, rfl⟩ | exact ⟨rfl, rfl⟩ | assumption | exact ⟨by omega, by omega⟩ | exact ⟨by omega, by simp; omega⟩ | omega | exact ⟨rfl, rfl, by simp only [List.length_map, List.length_append, List.length_cons, List.length_nil]; omega⟩ | exact ⟨rfl, rfl, by simp; omega⟩ | exact ⟨rfl, rfl, by omega⟩ | exact ⟨rfl, by simp; omega⟩ | exact id | (intro h; simp [h]; done) | ((repeat (first | exact trivial | exact rfl | apply And.intro)); done) | (simp; omega) | (refine ⟨?_, ?_, ?_⟩ <;> first | omega | (simp; done) | (simp; omega)) | exact hc0 | exact ⟨hc0, hc0⟩ | exact ⟨hc0, hc0, hc0⟩ | (simp only [Bool.and_eq_true] at hc0; simp [hc0]; done) | (simp_all; done))))
      | ((first | with_reducible apply DrawR.go0 | with_reducible apply KerB.mk); (focus kernel_rfl))
      | (first | with_reducible apply ends_ret | with_reducible apply ends_norm | with_reducible apply Halt'.mk)
      | ((with_reducible apply CondD.mk) <;> intro hb <;> (try simp only [SPLT] at hb) <;> (try first | contradiction | exact absurd hb (by assumption) | exact absurd (by assumption) hb | (exfalso; omega))))
  all_goals (try exact (false : Bool))
  refine loop_go (M := fun t => mem t [13, 2000013, 1000052, 1000053]) hT hM (fun k : Nat => [(31, .int .i64 k), (10, .sl 2 9 ((nearL a (l.take k)).map Agr.row)), (11, .int .i64 (if k ≤ i then -1 else (atN a l i : Int)))]) (fun k => k ≤ l.length) (fun k => l.length - k) (0) ?_ ?_ ?_
  · (conv => whnf)
    refine ⟨?_, by rfl⟩
    repeat' ((conv => whnf); first | exact DLes.nil | with_reducible exact DLe.refl _ | exact DLe.any _ | with_reducible apply DLes.cons | exact DLe.refl _ | exact dle_int (by omega) | exact dle_nil rfl | exact DLe.own _ _ | (exact dle_nil rfl))
  · exact Nat.zero_le _
  · intro k hk
    have hflk := hfl k
    rcases hx : l[k]? with _ | x
    · have hk' : k = l.length := by have := List.getElem?_eq_none_iff.1 hx; omega
      subst hk'
      rw [List.take_length, if_neg (by omega : ¬ l.length ≤ i)]
      repeat' (
        (conv => whnf)
        first
          | ((try ((first | with_reducible apply NumE.go | with_reducible apply IdxE.go | with_reducible apply TextE.go | with_reducible apply LookE.go | with_reducible apply CallE.go); (conv => whnf))); (with_reducible apply SideD.mk); (focus ((first | (intro hc; have hc0 := hc; (try simp only [SPLT] at hc); (try refine And.intro (by first | exact hc0 | exact ⟨hc0, hc0⟩ | exact ⟨hc0, hc0, hc0⟩) ?_)) | skip); first | exact idx_nat (by assumption) | exact idx_some (by omega) (by assumption) | exact idx_eq (by assumption) (by omega) | ((try apply givesl); (focus (((first | apply gives_go (changes_sem _ _ (by omega) hno) | apply gives_go (withOwn_sem _ _) | apply gives_go (find_sem _ _ _ _)); (focus (first | exact DLes.refl _ | (repeat (first | exact DLes.nil | ((apply DLes.cons); (focus (first | exact DLe.refl _ | exact DLe.own _ _ | exact DLe.nil _ _ | exact DLe.any _))))))); (focus exact rfl); (all_goals (first | exact rfl | assumption | omega | (simp; omega) | (simp; done)))))); (all_goals exact rfl)) | exact IntWalk.i64_in _ (by omega) | exact IntWalk.u8_in _ (by omega) | exact IntWalk.u64_in _ (by omega) | exact IntWalk.i32_in _ (by omega) | exact rfl | exact ⟨by omega, rfl⟩ | exact ⟨rfl, rfl⟩ | assumption | exact ⟨by omega, by omega⟩ | exact ⟨by omega, by simp; omega⟩ | omega | exact ⟨rfl, rfl, by simp only [List.length_map, List.length_append, List.length_cons, List.length_nil]; omega⟩ | exact ⟨rfl, rfl, by simp; omega⟩ | exact ⟨rfl, rfl, by omega⟩ | exact ⟨rfl, by simp; omega⟩ | exact id | (intro h; simp [h]; done) | ((repeat (first | exact trivial | exact rfl | apply And.intro)); done) | (simp; omega) | (refine ⟨?_, ?_, ?_⟩ <;> first | omega | (simp; done) | (simp; omega)) | exact hc0 | exact ⟨hc0, hc0⟩ | exact ⟨hc0, hc0, hc0⟩ | (simp only [Bool.and_eq_true] at hc0; simp [hc0]; done) | (simp_all; done))))
          | ((first | with_reducible apply DrawR.go0 | with_reducible apply KerB.mk); (focus kernel_rfl))
          | (first | with_reducible apply ends_ret | with_reducible apply ends_norm | with_reducible apply Halt'.mk)
          | ((with_reducible apply CondD.mk) <;> intro hb <;> (try simp only [SPLT] at hb) <;> (try first | contradiction | exact absurd hb (by assumption) | exact absurd (by assumption) hb | (exfalso; omega))))
      all_goals (try exact (false : Bool))
      unfold hidesA
      generalize changeL (nearL a l) a.first = ds at *
      refine ht_down [68] ?_
      conv => whnf
      refine loop_go (M := fun t => mem t [13, 2000013, 1000052, 1000053]) hT hM (fun j : Nat => [(70, .int .i64 j)]) (fun j => j ≤ ds.length ∧ hidesD (nearL a l) a.last (a.cas (ownOr a.msg m) (ownOr a.ver v) a.first) (atN a l i) (ds.drop j) = hidesD (nearL a l) a.last (a.cas (ownOr a.msg m) (ownOr a.ver v) a.first) (atN a l i) ds) (fun j => ds.length - j) (0) ?_ ?_ ?_
      · (conv => whnf)
        refine ⟨?_, by rfl⟩
        repeat' ((conv => whnf); first | exact DLes.nil | with_reducible exact DLe.refl _ | exact DLe.any _ | with_reducible apply DLes.cons | exact DLe.refl _ | exact dle_int (by omega) | exact dle_nil rfl | exact DLe.own _ _)
      · exact ⟨Nat.zero_le _, rfl⟩
      · rintro j ⟨hj, hrest⟩
        rcases hd : ds[j]? with _ | d
        · have hj' : j = ds.length := by have := List.getElem?_eq_none_iff.1 hd; omega
          subst hj'
          rw [List.drop_length] at hrest
          repeat' (
            (conv => whnf)
            first
              | ((try ((first | with_reducible apply NumE.go | with_reducible apply IdxE.go | with_reducible apply TextE.go | with_reducible apply LookE.go | with_reducible apply CallE.go); (conv => whnf))); (with_reducible apply SideD.mk); (focus ((first | (intro hc; have hc0 := hc; (try simp only [SPLT] at hc); (try refine And.intro (by first | exact hc0 | exact ⟨hc0, hc0⟩ | exact ⟨hc0, hc0, hc0⟩) ?_)) | skip); first | exact idx_nat (by assumption) | exact idx_some (by omega) (by assumption) | exact idx_eq (by assumption) (by omega) | ((try apply givesl); (focus (((first | apply gives_go (withOwn_sem _ _) | apply gives_go (changes_sem _ _ _ _) | apply gives_go (find_sem _ _ _ _)); (focus (first | exact DLes.refl _ | (repeat (first | exact DLes.nil | ((apply DLes.cons); (focus (first | exact DLe.refl _ | exact DLe.own _ _ | exact DLe.nil _ _ | exact DLe.any _))))))); (focus exact rfl); (all_goals (first | exact rfl | assumption | omega | (simp; omega) | (simp; done)))))); (all_goals exact rfl)) | exact IntWalk.i64_in _ (by omega) | exact IntWalk.u8_in _ (by omega) | exact IntWalk.u64_in _ (by omega) | exact IntWalk.i32_in _ (by omega) | exact rfl | exact ⟨by omega, rfl⟩ | exact ⟨rfl, rfl⟩ | assumption | exact ⟨by omega, by omega⟩ | exact ⟨by omega, by simp; omega⟩ | omega | exact ⟨rfl, rfl, by simp only [List.length_map, List.length_append, List.length_cons, List.length_nil]; omega⟩ | exact ⟨rfl, rfl, by simp; omega⟩ | exact ⟨rfl, rfl, by omega⟩ | exact ⟨rfl, by simp; omega⟩ | exact id | (intro h; simp [h]; done) | ((repeat (first | exact trivial | exact rfl | apply And.intro)); done) | (simp; omega) | (refine ⟨?_, ?_, ?_⟩ <;> first | omega | (simp; done) | (simp; omega)) | exact hc0 | exact ⟨hc0, hc0⟩ | exact ⟨hc0, hc0, hc0⟩ | (simp only [Bool.and_eq_true] at hc0; simp [hc0]; done) | (simp_all; done))))
              | ((first | with_reducible apply DrawR.go0 | with_reducible apply KerB.mk); (focus kernel_rfl))
              | (first | with_reducible apply ends_ret | with_reducible apply ends_norm | with_reducible apply Halt'.mk)
              | ((with_reducible apply CondD.mk) <;> intro hb <;> (try simp only [SPLT] at hb) <;> (try first | contradiction | exact absurd hb (by assumption) | exact absurd (by assumption) hb | (exfalso; omega))))
          all_goals (try exact (false : Bool))
          repeat' ((conv => whnf); first | exact trivial | with_reducible apply And.intro | with_reducible apply endsO_ret | with_reducible apply endsO_norm | exact DLes.nil | with_reducible exact DLe.refl _ | exact DLe.any _ | with_reducible apply DLes.cons | with_reducible exact rle_refl | exact rle_bool rfl | exact rle_int rfl | exact rle_nil rfl | exact rle_sl0 rfl)
          all_goals (conv => whnf)
          exact rle_bool hrest
        · have hlt := (List.getElem?_eq_some_iff.1 hd).1
          obtain ⟨hd0, hd1⟩ := hds d (List.mem_of_getElem? hd)
          have hfs := find_sem (nearL a l) ((a.cas (ownOr a.msg m) (ownOr a.ver v) a.first).on d) (by omega) hno
          rw [drop_at hd, hidesD] at hrest
          repeat' (
            (conv => whnf)
            first
              | ((try ((first | with_reducible apply NumE.go | with_reducible apply IdxE.go | with_reducible apply TextE.go | with_reducible apply LookE.go | with_reducible apply CallE.go); (conv => whnf))); (with_reducible apply SideD.mk); (focus ((first | (intro hc; have hc0 := hc; (try simp only [SPLT] at hc); (try refine And.intro (by first | exact hc0 | exact ⟨hc0, hc0⟩ | exact ⟨hc0, hc0, hc0⟩) ?_)) | skip); first | exact idx_nat (by assumption) | exact idx_some (by omega) (by assumption) | exact idx_eq (by assumption) (by omega) | ((try apply givesl); (focus (first | ((apply gives_go (hfs)); (focus (first | exact DLes.refl _ | (repeat (first | exact DLes.nil | ((apply DLes.cons); (focus (first | exact DLe.refl _ | exact DLe.own _ _ | exact DLe.nil _ _ | exact DLe.any _))))))); (focus exact rfl); (all_goals (first | exact rfl | assumption | omega | (simp; omega) | (simp; done)))) | ((first | apply gives_go (withOwn_sem _ _) | apply gives_go (changes_sem _ _ _ _) | apply gives_go (find_sem _ _ _ _)); (focus (first | exact DLes.refl _ | (repeat (first | exact DLes.nil | ((apply DLes.cons); (focus (first | exact DLe.refl _ | exact DLe.own _ _ | exact DLe.nil _ _ | exact DLe.any _))))))); (focus exact rfl); (all_goals (first | exact rfl | assumption | omega | (simp; omega) | (simp; done)))))); (all_goals exact rfl)) | exact IntWalk.i64_in _ (by omega) | exact IntWalk.u8_in _ (by omega) | exact IntWalk.u64_in _ (by omega) | exact IntWalk.i32_in _ (by omega) | exact rfl | exact ⟨by omega, rfl⟩ | exact ⟨rfl, rfl⟩ | assumption | exact ⟨by omega, by omega⟩ | exact ⟨by omega, by simp; omega⟩ | omega | exact ⟨rfl, rfl, by simp only [List.length_map, List.length_append, List.length_cons, List.length_nil]; omega⟩ | exact ⟨rfl, rfl, by simp; omega⟩ | exact ⟨rfl, rfl, by omega⟩ | exact ⟨rfl, by simp; omega⟩ | exact id | (intro h; simp [h]; done) | ((repeat (first | exact trivial | exact rfl | apply And.intro)); done) | (simp; omega) | (refine ⟨?_, ?_, ?_⟩ <;> first | omega | (simp; done) | (simp; omega)) | exact hc0 | exact ⟨hc0, hc0⟩ | exact ⟨hc0, hc0, hc0⟩ | (simp only [Bool.and_eq_true] at hc0; simp [hc0]; done) | (simp_all; done))))
              | ((first | with_reducible apply DrawR.go0 | with_reducible apply KerB.mk); (focus kernel_rfl))
              | (first | with_reducible apply ends_ret | with_reducible apply ends_norm | with_reducible apply Halt'.mk)
              | ((with_reducible apply CondD.mk) <;> intro hb <;> (try simp only [SPLT] at hb) <;> (try first | contradiction | exact absurd hb (by assumption) | exact absurd (by assumption) hb | (exfalso; omega))))
          all_goals (try exact (false : Bool))
          · rename_i hlt2
            rw [if_pos hb] at hrest
            repeat' ((conv => whnf); first | exact trivial | with_reducible apply And.intro | with_reducible apply endsO_ret | with_reducible apply endsO_norm | exact DLes.nil | with_reducible exact DLe.refl _ | exact DLe.any _ | with_reducible apply DLes.cons | with_reducible exact rle_refl | exact rle_bool rfl | exact rle_int rfl | exact rle_nil rfl | exact rle_sl0 rfl)
            all_goals (conv => whnf)
            exact rle_bool hrest
          · rename_i hle
            rw [if_neg (by omega), if_pos hb] at hrest
            repeat' ((conv => whnf); first | exact trivial | with_reducible apply And.intro | with_reducible apply endsO_ret | with_reducible apply endsO_norm | exact DLes.nil | with_reducible exact DLe.refl _ | exact DLe.any _ | with_reducible apply DLes.cons | with_reducible exact rle_refl | exact rle_bool rfl | exact rle_int rfl | exact rle_nil rfl | exact rle_sl0 rfl)
            all_goals (conv => whnf)
            exact rle_bool hrest
          · rename_i hle
            rw [if_neg (by omega), if_neg hb] at hrest
            refine ⟨j + 1, ⟨by omega, hrest⟩, by omega, ?_⟩
            (conv => whnf)
            refine ⟨?_, by rfl⟩
            repeat' ((conv => whnf); first | exact DLes.nil | with_reducible exact DLe.refl _ | exact DLe.any _ | with_reducible apply DLes.cons | exact DLe.refl _ | exact dle_int (by omega) | exact dle_nil rfl | exact DLe.own _ _)
    · have hlt := (List.getElem?_eq_some_iff.1 hx).1
      repeat' (
        (conv => whnf)
        first
          | ((try ((first | with_reducible apply NumE.go | with_reducible apply IdxE.go | with_reducible apply TextE.go | with_reducible apply LookE.go | with_reducible apply CallE.go); (conv => whnf))); (with_reducible apply SideD.mk); (focus ((first | (intro hc; have hc0 := hc; (try simp only [SPLT] at hc); (try refine And.intro (by first | exact hc0 | exact ⟨hc0, hc0⟩ | exact ⟨hc0, hc0, hc0⟩) ?_)) | skip); first | exact idx_nat (by assumption) | exact idx_some (by omega) (by assumption) | exact idx_eq (by assumption) (by omega) | ((try apply givesl); (focus (((first | apply gives_go (withOwn_sem _ _) | apply gives_go (changes_sem _ _ _ _) | apply gives_go (find_sem _ _ _ _)); (focus (first | exact DLes.refl _ | (repeat (first | exact DLes.nil | ((apply DLes.cons); (focus (first | exact DLe.refl _ | exact DLe.own _ _ | exact DLe.nil _ _ | exact DLe.any _))))))); (focus exact rfl); (all_goals (first | exact rfl | assumption | omega | (simp; omega) | (simp; done)))))); (all_goals exact rfl)) | exact IntWalk.i64_in _ (by omega) | exact IntWalk.u8_in _ (by omega) | exact IntWalk.u64_in _ (by omega) | exact IntWalk.i32_in _ (by omega) | exact rfl | exact ⟨by omega, rfl⟩ | exact ⟨rfl, rfl⟩ | assumption | exact ⟨by omega, by omega⟩ | exact ⟨by omega, by simp; omega⟩ | omega | exact ⟨rfl, rfl, by simp only [List.length_map, List.length_append, List.length_cons, List.length_nil]; omega⟩ | exact ⟨rfl, rfl, by simp; omega⟩ | exact ⟨rfl, rfl, by omega⟩ | exact ⟨rfl, by simp; omega⟩ | exact id | (intro h; simp [h]; done) | ((repeat (first | exact trivial | exact rfl | apply And.intro)); done) | (simp; omega) | (refine ⟨?_, ?_, ?_⟩ <;> first | omega | (simp; done) | (simp; omega)) | exact hc0 | exact ⟨hc0, hc0⟩ | exact ⟨hc0, hc0, hc0⟩ | (simp only [Bool.and_eq_true] at hc0; simp [hc0]; done) | (simp_all; done))))
          | ((first | with_reducible apply DrawR.go0 | with_reducible apply KerB.mk); (focus kernel_rfl))
          | (first | with_reducible apply ends_ret | with_reducible apply ends_norm | with_reducible apply Halt'.mk)
          | ((with_reducible apply CondD.mk) <;> intro hb <;> (try simp only [SPLT] at hb) <;> (try first | contradiction | exact absurd hb (by assumption) | exact absurd (by assumption) hb | (exfalso; omega))))
      all_goals (try exact (false : Bool))
      · rename_i hak
        have hki : k = i := by omega
        subst hki
        obtain rfl : a = x := Option.some.inj (ha.symm.trans hx)
        have hnx : nearL a (l.take (k + 1)) = nearL a (l.take k) ++ [a] := by
          rw [take_at hx]; unfold nearL; rw [List.filter_append, List.filter_cons_of_pos (by simp [akin])]; rfl
        refine ⟨k + 1, by omega, by omega, ?_⟩
        (conv => whnf)
        refine ⟨?_, by rfl⟩
        repeat' ((conv => whnf); first | exact DLes.nil | with_reducible exact DLe.refl _ | exact DLe.any _ | with_reducible apply DLes.cons | exact DLe.refl _ | exact dle_int (by omega) | exact dle_nil rfl | exact DLe.own _ _ | (exact dle_sl (by rw [hnx]; simp; done)) | (exact dle_int (by rw [if_neg (by omega)]; simp [atN]; done)))
      · rename_i hak
        have hki : k ≠ i := by omega
        have hnx : nearL a (l.take (k + 1)) = nearL a (l.take k) ++ [x] := by
          rw [take_at hx]; unfold nearL; rw [List.filter_append, List.filter_cons_of_pos (by simp [akin, hak])]; rfl
        refine ⟨k + 1, by omega, by omega, ?_⟩
        (conv => whnf)
        refine ⟨?_, by rfl⟩
        repeat' ((conv => whnf); first | exact DLes.nil | with_reducible exact DLe.refl _ | exact DLe.any _ | with_reducible apply DLes.cons | exact DLe.refl _ | exact dle_int (by omega) | exact dle_nil rfl | exact DLe.own _ _ | (exact dle_sl (by rw [hnx]; simp; done)) | (exact dle_int (by by_cases h : k ≤ i; (rw [if_pos h, if_pos (by omega)]); (rw [if_neg h, if_neg (by omega)]))))
      · have hax : akin a x = false := by
          unfold akin
          rcases hb with (hb | hb) | hb <;> simp [hb]
        have hki : k ≠ i := fun e => by
          subst e
          obtain rfl : a = x := Option.some.inj (ha.symm.trans hx)
          simp [akin] at hax
        have hnx : nearL a (l.take (k + 1)) = nearL a (l.take k) := by
          rw [take_at hx]; unfold nearL; rw [List.filter_append, List.filter_cons_of_neg (by simp [hax])]; simp
        refine ⟨k + 1, by omega, by omega, ?_⟩
        (conv => whnf)
        refine ⟨?_, by rfl⟩
        repeat' ((conv => whnf); first | exact DLes.nil | with_reducible exact DLe.refl _ | exact DLe.any _ | with_reducible apply DLes.cons | exact DLe.refl _ | exact dle_int (by omega) | exact dle_nil rfl | exact DLe.own _ _ | (exact dle_sl (by rw [hnx])) | (exact dle_int (by by_cases h : k ≤ i; (rw [if_pos h, if_pos (by omega)]); (rw [if_neg h, if_neg (by omega)]))))
end Go.Proofs.YthbhjladfniboaaGreatDoor
namespace Go.Proofs.YthbhjladfniboaaGreatDoor
set_option linter.unusedSimpArgs false
set_option linter.unusedVariables false
open Go.RowKit
set_option maxRecDepth 100000
set_option maxHeartbeats 1000000

theorem hidesN_at {l : List Agr} {m v : Str} {i : Nat} {a : Agr} (h : l[i]? = some a) : hidesN l m v i = hidesA l m v i a := by
  unfold hidesN
  rw [h]
theorem Never_sem (p : List Par) (l : List Agr) (hok : ∀ x ∈ p, x.Ok) (hl : ∀ a ∈ l, a.Ok) : Sem Tryz.prog 7 [.sl 0 2 (p.map Par.row), .sl 0 9 (l.map Agr.row)] (.tup [.sl 0 1 ((NeverN p l).1.map iR), .int .i64 (NeverN p l).2]) := by
  have hz : agreementsN p l = 0 → l.length ≤ 1000000 ∧ ∀ a ∈ l, ownFaultN a = 0 := fun h => by
    obtain ⟨h1, h2, h3⟩ := agreementsN_ok h
    exact ⟨by omega, agrFaults_ok h3⟩
  refine sem_intro (M := fun t => mem t [1000052, 1000053]) hT hM Tryz.func7 inferInstance rfl rfl rfl rfl rfl rfl ?_
  repeat' (
    (conv => whnf)
    first
      | ((try ((first | with_reducible apply NumE.go | with_reducible apply IdxE.go | with_reducible apply TextE.go | with_reducible apply LookE.go | with_reducible apply CallE.go); (conv => whnf))); (with_reducible apply SideD.mk); (focus (first | exact idx_nat (by assumption) | exact idx_some (by omega) (by assumption) | exact idx_eq (by assumption) (by omega) | ((try apply givesl); (focus (first | ((apply gives_go (other_sem l 27 (·.msg) (hz (by assumption)).1 (fun a _ => never1_sem a))); (focus (first | exact DLes.refl _ | (repeat (first | exact DLes.nil | ((apply DLes.cons); (focus (first | exact DLe.refl _ | exact DLe.own _ _ | exact DLe.nil _ _ | exact DLe.any _))))))); (focus exact rfl); (all_goals (first | exact rfl | assumption | omega | (simp; omega) | (simp; done)))) | ((first | apply gives_go (CheckAgreements_sem p l hok hl) | apply gives_go (other_sem l 28 (·.ver) (hz (by assumption)).1 (fun a _ => never2_sem a)) | apply gives_go (hides_sem _ _ _ _ _ _ _ _)); (focus (first | exact DLes.refl _ | (repeat (first | exact DLes.nil | ((apply DLes.cons); (focus (first | exact DLe.refl _ | exact DLe.own _ _ | exact DLe.nil _ _ | exact DLe.any _))))))); (focus exact rfl); (all_goals (first | exact rfl | assumption | omega | (simp; omega) | (simp; done)))))); (all_goals exact rfl)) | exact IntWalk.i64_in _ (by omega) | exact IntWalk.u8_in _ (by omega) | exact IntWalk.u64_in _ (by omega) | exact IntWalk.i32_in _ (by omega) | exact rfl | exact ⟨by omega, rfl⟩ | exact ⟨rfl, rfl⟩ | assumption | exact ⟨by omega, by omega⟩ | exact ⟨by omega, by simp; omega⟩ | omega | exact ⟨rfl, rfl, by simp only [List.length_map, List.length_append, List.length_cons, List.length_nil]; omega⟩ | exact ⟨rfl, rfl, by simp; omega⟩ | exact ⟨rfl, rfl, by omega⟩ | exact ⟨rfl, by simp; omega⟩ | exact id | (intro h; simp [h]; done) | ((repeat (first | exact trivial | exact rfl | apply And.intro)); done) | (simp; omega) | (refine ⟨?_, ?_, ?_⟩ <;> first | omega | (simp; done) | (simp; omega)) | (simp_all; done))))
      | ((first | with_reducible apply DrawR.go0 | with_reducible apply KerB.mk); (focus kernel_rfl))
      | (first | with_reducible apply ends_ret | with_reducible apply ends_norm | with_reducible apply Halt'.mk)
      | ((with_reducible apply CondD.mk) <;> intro hb <;> (try simp only [SPLT] at hb) <;> (try first | contradiction | exact absurd hb (by assumption) | exact absurd (by assumption) hb | (exfalso; omega))))
  all_goals (try exact (false : Bool))
  · repeat' ((conv => whnf); first | exact trivial | with_reducible apply And.intro | with_reducible apply endsO_ret | with_reducible apply endsO_norm | exact DLes.nil | with_reducible exact DLe.refl _ | exact DLe.any _ | with_reducible apply DLes.cons | with_reducible exact rle_refl | exact rle_bool rfl | exact rle_int rfl | exact rle_nil rfl | exact rle_sl0 rfl)
    all_goals (conv => whnf)
    · exact rle_nil (by rw [NeverN, if_pos hb]; rfl)
    · exact rle_int (by rw [NeverN, if_pos hb])
  · have ha : agreementsN p l = 0 := by assumption
    obtain ⟨hlen, hown⟩ := hz ha
    have hN : NeverN p l = (neverK l (otherN (msgsN l)) (otherN (versN l)) l.length, 0) := by rw [NeverN, if_neg (by simpa using ha)]
    rw [hN]
    have hM1 : otherN (l.map (·.msg)) = otherN (msgsN l) := rfl
    have hV1 : otherN (l.map (·.ver)) = otherN (versN l) := rfl
    rw [hM1, hV1]
    generalize otherN (msgsN l) = M at *
    generalize otherN (versN l) = V at *
    refine loop_go (M := fun t => mem t [1000052, 1000053]) hT hM (fun k : Nat => [(23, .int .i64 k), (7, .sl 2 1 ((neverK l M V k).map iR))]) (fun k => k ≤ l.length) (fun k => l.length - k) (0) ?_ ?_ ?_
    · (conv => whnf)
      refine ⟨?_, by rfl⟩
      repeat' ((conv => whnf); first | exact DLes.nil | with_reducible exact DLe.refl _ | exact DLe.any _ | with_reducible apply DLes.cons | exact DLe.refl _ | exact dle_int (by omega) | exact dle_nil rfl | exact DLe.own _ _ | (exact dle_nil rfl))
    · exact Nat.zero_le _
    · intro k hk
      have hkl := neverK_len l M V k
      rcases hx : l[k]? with _ | a
      · have hk' : k = l.length := by have := List.getElem?_eq_none_iff.1 hx; omega
        subst hk'
        repeat' (
          (conv => whnf)
          first
            | ((try ((first | with_reducible apply NumE.go | with_reducible apply IdxE.go | with_reducible apply TextE.go | with_reducible apply LookE.go | with_reducible apply CallE.go); (conv => whnf))); (with_reducible apply SideD.mk); (focus (first | exact idx_nat (by assumption) | exact idx_some (by omega) (by assumption) | exact idx_eq (by assumption) (by omega) | ((try apply givesl); (focus (((first | apply gives_go (CheckAgreements_sem _ _ _ _) | apply gives_go (other_sem _ _ _ _ _) | apply gives_go (hides_sem _ _ _ _ _ _ _ _)); (focus (first | exact DLes.refl _ | (repeat (first | exact DLes.nil | ((apply DLes.cons); (focus (first | exact DLe.refl _ | exact DLe.own _ _ | exact DLe.nil _ _ | exact DLe.any _))))))); (focus exact rfl); (all_goals (first | exact rfl | assumption | omega | (simp; omega) | (simp; done)))))); (all_goals exact rfl)) | exact IntWalk.i64_in _ (by omega) | exact IntWalk.u8_in _ (by omega) | exact IntWalk.u64_in _ (by omega) | exact IntWalk.i32_in _ (by omega) | exact rfl | exact ⟨by omega, rfl⟩ | exact ⟨rfl, rfl⟩ | assumption | exact ⟨by omega, by omega⟩ | exact ⟨by omega, by simp; omega⟩ | omega | exact ⟨rfl, rfl, by simp only [List.length_map, List.length_append, List.length_cons, List.length_nil]; omega⟩ | exact ⟨rfl, rfl, by simp; omega⟩ | exact ⟨rfl, rfl, by omega⟩ | exact ⟨rfl, by simp; omega⟩ | exact id | (intro h; simp [h]; done) | ((repeat (first | exact trivial | exact rfl | apply And.intro)); done) | (simp; omega) | (refine ⟨?_, ?_, ?_⟩ <;> first | omega | (simp; done) | (simp; omega)) | (simp_all; done))))
            | ((first | with_reducible apply DrawR.go0 | with_reducible apply KerB.mk); (focus kernel_rfl))
            | (first | with_reducible apply ends_ret | with_reducible apply ends_norm | with_reducible apply Halt'.mk)
            | ((with_reducible apply CondD.mk) <;> intro hb <;> (try simp only [SPLT] at hb) <;> (try first | contradiction | exact absurd hb (by assumption) | exact absurd (by assumption) hb | (exfalso; omega))))
        all_goals (try exact (false : Bool))
        repeat' ((conv => whnf); first | exact trivial | with_reducible apply And.intro | with_reducible apply endsO_ret | with_reducible apply endsO_norm | exact DLes.nil | with_reducible exact DLe.refl _ | exact DLe.any _ | with_reducible apply DLes.cons | with_reducible exact rle_refl | exact rle_bool rfl | exact rle_int rfl | exact rle_nil rfl | exact rle_sl0 rfl)
        all_goals (conv => whnf)
      · have hlt := (List.getElem?_eq_some_iff.1 hx).1
        have hnx := neverK_next (l := l) (m := M) (v := V) (k := k)
        rw [hidesN_at hx] at hnx
        repeat' (
          (conv => whnf)
          first
            | ((try ((first | with_reducible apply NumE.go | with_reducible apply IdxE.go | with_reducible apply TextE.go | with_reducible apply LookE.go | with_reducible apply CallE.go); (conv => whnf))); (with_reducible apply SideD.mk); (focus (first | exact idx_nat (by assumption) | exact idx_some (by omega) (by assumption) | exact idx_eq (by assumption) (by omega) | ((try apply givesl); (focus (((first | apply gives_go (hides_sem l k M V a hx hlen hown) | apply gives_go (CheckAgreements_sem _ _ _ _) | apply gives_go (other_sem _ _ _ _ _)); (focus (first | exact DLes.refl _ | (repeat (first | exact DLes.nil | ((apply DLes.cons); (focus (first | exact DLe.refl _ | exact DLe.own _ _ | exact DLe.nil _ _ | exact DLe.any _))))))); (focus exact rfl); (all_goals (first | exact rfl | assumption | omega | (simp; omega) | (simp; done)))))); (all_goals exact rfl)) | exact IntWalk.i64_in _ (by omega) | exact IntWalk.u8_in _ (by omega) | exact IntWalk.u64_in _ (by omega) | exact IntWalk.i32_in _ (by omega) | exact rfl | exact ⟨by omega, rfl⟩ | exact ⟨rfl, rfl⟩ | assumption | exact ⟨by omega, by omega⟩ | exact ⟨by omega, by simp; omega⟩ | omega | exact ⟨rfl, rfl, by simp only [List.length_map, List.length_append, List.length_cons, List.length_nil]; omega⟩ | exact ⟨rfl, rfl, by simp; omega⟩ | exact ⟨rfl, rfl, by omega⟩ | exact ⟨rfl, by simp; omega⟩ | exact id | (intro h; simp [h]; done) | ((repeat (first | exact trivial | exact rfl | apply And.intro)); done) | (simp; omega) | (refine ⟨?_, ?_, ?_⟩ <;> first | omega | (simp; done) | (simp; omega)) | (simp_all; done))))
            | ((first | with_reducible apply DrawR.go0 | with_reducible apply KerB.mk); (focus kernel_rfl))
            | (first | with_reducible apply ends_ret | with_reducible apply ends_norm | with_reducible apply Halt'.mk)
            | ((with_reducible apply CondD.mk) <;> intro hb <;> (try simp only [SPLT] at hb) <;> (try first | contradiction | exact absurd hb (by assumption) | exact absurd (by assumption) hb | (exfalso; omega))))
        all_goals (try exact (false : Bool))
        · rw [if_pos hb] at hnx
          refine ⟨k + 1, by omega, by omega, ?_⟩
          (conv => whnf)
          refine ⟨?_, by rfl⟩
          repeat' ((conv => whnf); first | exact DLes.nil | with_reducible exact DLe.refl _ | exact DLe.any _ | with_reducible apply DLes.cons | exact DLe.refl _ | exact dle_int (by omega) | exact dle_nil rfl | exact DLe.own _ _ | (exact dle_sl (by rw [hnx]; simp; rfl)))
        · rw [if_neg (by simp [hb])] at hnx
          refine ⟨k + 1, by omega, by omega, ?_⟩
          (conv => whnf)
          refine ⟨?_, by rfl⟩
          repeat' ((conv => whnf); first | exact DLes.nil | with_reducible exact DLe.refl _ | exact DLe.any _ | with_reducible apply DLes.cons | exact DLe.refl _ | exact dle_int (by omega) | exact dle_nil rfl | exact DLe.own _ _ | (exact dle_sl (by rw [hnx]; simp)))
end Go.Proofs.YthbhjladfniboaaGreatDoor
namespace Go.Proofs.YthbhjladfniboaaGreatDoor
set_option linter.unusedSimpArgs false
set_option linter.unusedVariables false
open Go.RowKit

/-- Two rising lists of the same numbers. -/
theorem lt_ext : ∀ {xs ys : List Int}, xs.Pairwise (· < ·) → ys.Pairwise (· < ·) → (∀ x, x ∈ xs ↔ x ∈ ys) → xs = ys
  | [], [], _, _, _ => rfl
  | [], y :: ys, _, _, h => by have := (h y).2 (by simp); cases this
  | x :: xs, [], _, _, h => by have := (h x).1 (by simp); cases this
  | x :: xs, y :: ys, hx, hy, h => by
    have h1 := mem_cons_pw hx
    have h2 := mem_cons_pw hy
    have e : x = y := by
      rcases List.mem_cons.1 ((h x).1 (by simp)) with e | e
      · exact e
      · rcases List.mem_cons.1 ((h y).2 (by simp)) with e' | e'
        · exact e'.symm
        · have := h1 y e'; have := h2 x e; omega
    subst e
    rw [lt_ext (List.pairwise_cons.1 hx).2 (List.pairwise_cons.1 hy).2 fun z => ⟨fun hz => ?_, fun hz => ?_⟩]
    · rcases List.mem_cons.1 ((h z).1 (List.mem_cons_of_mem _ hz)) with e | e
      · have := h1 z hz; omega
      · exact e
    · rcases List.mem_cons.1 ((h z).2 (List.mem_cons_of_mem _ hz)) with e | e
      · have := h2 z hz; omega
      · exact e
def turnsR (l : List Agr) : List Int := l.flatMap fun a => [a.first, a.last + 1]
def turnsN (l : List Agr) : List Int := Lib.compact (sortI (turnsR l))
theorem turnsN_mem {l : List Agr} {x : Int} : x ∈ turnsN l ↔ ∃ a ∈ l, x = a.first ∨ x = a.last + 1 := by
  rw [turnsN, distinct_mem, turnsR, List.mem_flatMap]
  simp only [List.mem_cons, List.not_mem_nil, or_false]
def until8D (l : List Agr) (c : Cas) (f : Int) : List Int → Int
  | [] => 3652059
  | d :: r => if d ≤ c.day ∨ 3652059 < d then until8D l c f r else if findN l (c.on d) ≠ f then d - 1 else until8D l c f r
theorem until8_filter {l : List Agr} {c : Cas} {f : Int} : ∀ ds : List Int, until8D l c f ds = untilD l c f (ds.filter fun d => decide (c.day < d) && decide (d ≤ 3652059))
  | [] => rfl
  | d :: r => by
    by_cases h : d ≤ c.day ∨ 3652059 < d
    · have hf : (decide (c.day < d) && decide (d ≤ 3652059)) = false := by
        rw [Bool.and_eq_false_iff, decide_eq_false_iff_not, decide_eq_false_iff_not]; omega
      rw [until8D, if_pos h, List.filter_cons_of_neg (by simp [hf]), until8_filter r]
    · have hf : (decide (c.day < d) && decide (d ≤ 3652059)) = true := by
        rw [Bool.and_eq_true, decide_eq_true_eq, decide_eq_true_eq]; omega
      rw [until8D, if_neg h, List.filter_cons_of_pos (by exact hf), untilD, until8_filter r]
theorem until8_eq (l : List Agr) (c : Cas) (f : Int) : until8D l c f (turnsN l) = untilD l c f (changeL l c.day).tail := by
  obtain ⟨r, h1, h2, h3⟩ := changeL_cons l c.day
  rw [until8_filter, h1]
  congr 1
  refine lt_ext ((compact_lt _ (sortI_le _)).filter _) (List.pairwise_cons.1 h2).2 fun x => ?_
  rw [List.tail_cons, h3, List.mem_filter, Bool.and_eq_true, decide_eq_true_eq, decide_eq_true_eq, rawL_mem]
  refine ⟨fun ⟨h4, h5, h6⟩ => ⟨.inr ?_, h5⟩, fun ⟨h4, h5⟩ => ?_⟩
  · obtain ⟨a, ha, he⟩ := turnsN_mem.1 h4
    exact ⟨a, ha, he, h5, h6⟩
  · rcases h4 with h4 | ⟨a, ha, he, _, h6⟩
    · omega
    · exact ⟨turnsN_mem.2 ⟨a, ha, he⟩, h5, h6⟩
/-- A text, or all of some others and one that is none. -/
def someN (s : Str) (all : List Str) : List Str := if s ≠ [] then [s] else all ++ [[63]]
def hitB (l : List Agr) (i : Nat) (a : Agr) (m v : Str) (d : Int) : Bool := !(m == []) && (!(v == []) && findN l (a.cas m v d) == i)
def hitV (l : List Agr) (i : Nat) (a : Agr) (m v : Str) : Bool := (turnsN l ++ [a.first]).any (hitB l i a m v)
def hitM (l : List Agr) (i : Nat) (a : Agr) (m : Str) : Bool := (someN a.ver (versN l)).any (hitV l i a m)
def foundA (l : List Agr) (i : Nat) (a : Agr) : Bool := (someN a.msg (msgsN l)).any (hitM l i a)
def foundN (l : List Agr) (i : Nat) : Bool := match l[i]? with
  | some a => foundA l i a
  | none => false
def never8K (l : List Agr) (k : Nat) : List Int := ((List.range k).filter fun i => !foundN l i).map Int.ofNat
theorem never8K_next {l : List Agr} {k : Nat} : never8K l (k + 1) = never8K l k ++ if foundN l k = true then [] else [(k : Int)] := by
  unfold never8K
  rw [List.range_succ, List.filter_append, List.map_append]
  congr 1
  by_cases h : foundN l k = true <;> simp [h]
theorem any_not_name {s : Str} (h : isAnyB s = true) : s ≠ [63] := by
  rintro rfl
  revert h
  decide
theorem own_any {a : Agr} (h : ownFaultN a = 0) : isAnyB a.msg = true ∧ isAnyB a.ver = true := by
  unfold ownFaultN at h
  split at h
  · cases h
  · split at h
    · cases h
    · rename_i h2
      simp only [Bool.or_eq_true, Bool.not_eq_true', not_or, Bool.not_eq_false] at h2
      exact h2
theorem ownOr_some (s : Str) (all : List Str) : ownOr s [63] ∈ someN s all ∧ ownOr s [63] ≠ [] := by
  unfold ownOr someN
  by_cases h : s = []
  · rw [if_pos h, if_neg (by simpa using h)]
    exact ⟨by simp, by simp⟩
  · rw [if_neg h, if_pos h]
    exact ⟨by simp, h⟩
/-- What is found among those that matter is found among all. -/
theorem near_back {l : List Agr} {a : Agr} {c : Cas} {i : Nat} (hi : l[i]? = some a) (hc : ∀ x, appliesB x c = true → akin a x = true) (h : findN (nearL a l) c = atN a l i) : findN l c = i := by
  have haa : akin a a = true := by simp [akin]
  have hb := findN_best (nearL a l) c
  rw [h] at hb
  obtain ⟨_, x, g2, g3, _⟩ := hb.some (by omega)
  have : (atN a l i : Int).toNat = atN a l i := rfl
  rw [this, at_near hi haa] at g2
  cases g2
  have hB := findN_best l c
  have hj : 0 ≤ findN l c := by
    rcases Int.lt_or_le (findN l c) 0 with h0 | h0
    · exact absurd g3 (hB.none h0 i a (List.getElem?_eq_some_iff.1 hi).1 hi)
    · exact h0
  obtain ⟨j, hjn⟩ : ∃ j : Nat, findN l c = j := ⟨(findN l c).toNat, by omega⟩
  rw [hjn] at hB ⊢
  obtain ⟨_, y, k2, k3, _⟩ := hB.some (by omega)
  have : (j : Int).toNat = j := rfl
  rw [this] at k2
  have hy := hc y k3
  have h5 := near_find hjn k2 hy
  rw [h] at h5
  rcases Nat.lt_trichotomy i j with h6 | h6 | h6
  · have := at_lt h6 hi haa; omega
  · rw [h6]
  · have := at_lt h6 k2 hy; omega
theorem found_hides {p : List Par} {l : List Agr} (h : agreementsN p l = 0) {i : Nat} (hi : i < l.length) : foundN l i = !hidesN l (otherN (msgsN l)) (otherN (versN l)) i := by
  have ho := agrFaults_ok (agreementsN_ok h).2.2
  have ha : l[i]? = some l[i] := List.getElem?_eq_getElem hi
  have hal := ho l[i] (List.mem_of_getElem? ha)
  cases hh : hidesN l (otherN (msgsN l)) (otherN (versN l)) i with
  | true =>
    have hno := hides_no (otherN_ok _) (otherN_ok _) ho hi hh
    unfold foundN
    rw [ha]
    show foundA l i l[i] = false
    rw [Bool.eq_false_iff]
    intro ht
    unfold foundA at ht
    obtain ⟨m, _, ht⟩ := List.any_eq_true.1 ht
    unfold hitM at ht
    obtain ⟨v, _, ht⟩ := List.any_eq_true.1 ht
    unfold hitV at ht
    obtain ⟨d, _, ht⟩ := List.any_eq_true.1 ht
    simp only [hitB, Bool.and_eq_true, beq_iff_eq] at ht
    exact hno _ ht.2.2
  | false =>
    unfold hidesN at hh
    unfold foundN
    rw [ha] at hh ⊢
    simp only at hh
    show foundA l i l[i] = true
    generalize l[i] = a at *
    obtain ⟨d, h1, h2, h3⟩ := hidesD_false hh
    have hf : findN l (a.cas (ownOr a.msg (otherN (msgsN l))) (ownOr a.ver (otherN (versN l))) d) = i := near_back ha (fun x hx => by
      obtain ⟨⟨e1, e2, e3⟩, _⟩ := (applies_iff _ _).1 hx
      have e1 : x.fr = a.fr := e1
      have e2 : x.tgt = a.tgt := e2
      have e3 : x.test = a.test := e3
      simp [akin, e1, e2, e3]) h3
    have hm : ([63] : Str) ∉ msgsN l := fun hm => by
      obtain ⟨x, hx, e⟩ := List.mem_map.1 hm
      exact any_not_name (own_any (ho x hx)).1 e
    have hv : ([63] : Str) ∉ versN l := fun hv => by
      obtain ⟨x, hx, e⟩ := List.mem_map.1 hv
      exact any_not_name (own_any (ho x hx)).2 e
    obtain ⟨h4, _, _⟩ := own_finds hm hv ha hf
    have h4 : findN l (a.cas (ownOr a.msg [63]) (ownOr a.ver [63]) d) = i := h4
    obtain ⟨s1, s2⟩ := ownOr_some a.msg (msgsN l)
    obtain ⟨s3, s4⟩ := ownOr_some a.ver (versN l)
    have hd : d ∈ turnsN l ++ [a.first] := by
      have h5 : d ∈ rawL (nearL a l) a.first := (distinct_mem _ _).1 h1
      rcases rawL_mem.1 h5 with e | ⟨x, hx, e, _, _⟩
      · exact List.mem_append.2 (.inr (by simp [e]))
      · exact List.mem_append.2 (.inl (turnsN_mem.2 ⟨x, (List.mem_filter.1 hx).1, e⟩))
    refine List.any_eq_true.2 ⟨_, s1, List.any_eq_true.2 ⟨_, s3, List.any_eq_true.2 ⟨d, hd, ?_⟩⟩⟩
    simp only [hitB, h4, beq_self_eq_true, Bool.and_true, Bool.and_eq_true, Bool.not_eq_true', beq_eq_false_iff_ne]
    exact ⟨s2, s4⟩
theorem never8_eq {p : List Par} {l : List Agr} (h : agreementsN p l = 0) : never8K l l.length = neverK l (otherN (msgsN l)) (otherN (versN l)) l.length := by
  unfold never8K neverK
  congr 1
  refine List.filter_congr fun i hi => ?_
  rw [found_hides h (List.mem_range.1 hi), Bool.not_not]
end Go.Proofs.YthbhjladfniboaaGreatDoor
namespace Go.Proofs.YthbhjladfniboaaGreatDoor
set_option linter.unusedSimpArgs false
set_option linter.unusedVariables false
open Go.RowKit
set_option maxRecDepth 100000
set_option maxHeartbeats 1000000

theorem better8_sem (a b : Agr) (ha : ownFaultN a = 0) (hb' : ownFaultN b = 0) : Sem Tryz.prog 57 [a.d, b.d] (.int .i64 (betterN a b)) := by
  obtain ⟨⟨h1, h2, h3, h4⟩, ha2⟩ := fit_of_own ha
  obtain ⟨⟨h5, h6, h7, h8⟩, hb2⟩ := fit_of_own hb'
  have f1 := rankN_bd a
  have f2 := rankN_bd b
  have hB : betterN a b = firstSign [rankN b - rankN a, b.first - a.first, a.last - b.last] := by
    rw [← better8_eq a b ha2 hb2]
    rfl
  refine sem_intro (M := fun t => mem t []) hT hM Tryz.func57 inferInstance rfl rfl rfl rfl rfl rfl ?_
  repeat' (
    (conv => whnf)
    first
      | ((try ((first | with_reducible apply NumE.go | with_reducible apply IdxE.go | with_reducible apply TextE.go | with_reducible apply LookE.go | with_reducible apply CallE.go); (conv => whnf))); (with_reducible apply SideD.mk); (focus (first | exact idx_nat (by assumption) | exact idx_some (by omega) (by assumption) | exact idx_eq (by assumption) (by omega) | ((try apply givesl); (focus (((apply gives_go (rank_sem _)); (focus (first | exact DLes.refl _ | (repeat (first | exact DLes.nil | ((apply DLes.cons); (focus (first | exact DLe.refl _ | exact DLe.own _ _ | exact DLe.nil _ _ | exact DLe.any _))))))); (focus exact rfl); (all_goals (first | exact rfl | assumption | omega | (simp; omega) | (simp; done)))))); (all_goals exact rfl)) | exact IntWalk.i64_in _ (by omega) | exact IntWalk.u8_in _ (by omega) | exact IntWalk.u64_in _ (by omega) | exact IntWalk.i32_in _ (by omega) | exact rfl | exact ⟨by omega, rfl⟩ | exact ⟨rfl, rfl⟩ | assumption | exact ⟨by omega, by omega⟩ | exact ⟨by omega, by simp; omega⟩ | omega | exact ⟨rfl, rfl, by simp only [List.length_map, List.length_append, List.length_cons, List.length_nil]; omega⟩ | exact ⟨rfl, rfl, by simp; omega⟩ | exact ⟨rfl, rfl, by omega⟩ | exact ⟨rfl, by simp; omega⟩ | exact id | (intro h; simp [h]; done) | ((repeat (first | exact trivial | exact rfl | apply And.intro)); done) | (simp; omega) | (refine ⟨?_, ?_, ?_⟩ <;> first | omega | (simp; done) | (simp; omega)) | (simp_all; done))))
      | ((first | with_reducible apply DrawR.go0 | with_reducible apply KerB.mk); (focus kernel_rfl))
      | (first | with_reducible apply ends_ret | with_reducible apply ends_norm | with_reducible apply Halt'.mk)
      | ((with_reducible apply CondD.mk) <;> intro hb <;> (try simp only [SPLT] at hb) <;> (try first | contradiction | exact absurd hb (by assumption) | exact absurd (by assumption) hb | (exfalso; omega))))
  all_goals (try exact (false : Bool))
  generalize hD0 : rankN b - rankN a = d0 at *
  refine ht_down [22] ?_
  conv => whnf
  refine loop_go (M := fun t => mem t []) hT hM (fun k : Nat => [(24, .int .i64 k)]) (fun k => k ≤ 3 ∧ firstSign ([d0, b.first - a.first, a.last - b.last].drop k) = betterN a b) (fun k => 3 - k) (0) ?_ ?_ ?_
  · (conv => whnf)
    refine ⟨?_, by rfl⟩
    repeat' ((conv => whnf); first | exact DLes.nil | with_reducible exact DLe.refl _ | exact DLe.any _ | with_reducible apply DLes.cons | exact DLe.refl _ | exact dle_int (by omega) | exact dle_nil rfl | exact DLe.own _ _)
  · exact ⟨Nat.zero_le _, hB.symm⟩
  · rintro k ⟨hk, hrest⟩
    rcases hx : [d0, b.first - a.first, a.last - b.last][k]? with _ | d
    · have hk' : k = 3 := by have := List.getElem?_eq_none_iff.1 hx; simp at this; omega
      subst hk'
      repeat' (
        (conv => whnf)
        first
          | ((try ((first | with_reducible apply NumE.go | with_reducible apply IdxE.go | with_reducible apply TextE.go | with_reducible apply LookE.go | with_reducible apply CallE.go); (conv => whnf))); (with_reducible apply SideD.mk); (focus (first | exact idx_nat (by assumption) | exact idx_some (by omega) (by assumption) | exact idx_eq (by assumption) (by omega) | ((try apply givesl); (focus (((apply gives_go (rank_sem _)); (focus (first | exact DLes.refl _ | (repeat (first | exact DLes.nil | ((apply DLes.cons); (focus (first | exact DLe.refl _ | exact DLe.own _ _ | exact DLe.nil _ _ | exact DLe.any _))))))); (focus exact rfl); (all_goals (first | exact rfl | assumption | omega | (simp; omega) | (simp; done)))))); (all_goals exact rfl)) | exact IntWalk.i64_in _ (by omega) | exact IntWalk.u8_in _ (by omega) | exact IntWalk.u64_in _ (by omega) | exact IntWalk.i32_in _ (by omega) | exact rfl | exact ⟨by omega, rfl⟩ | exact ⟨rfl, rfl⟩ | assumption | exact ⟨by omega, by omega⟩ | exact ⟨by omega, by simp; omega⟩ | omega | exact ⟨rfl, rfl, by simp only [List.length_map, List.length_append, List.length_cons, List.length_nil]; omega⟩ | exact ⟨rfl, rfl, by simp; omega⟩ | exact ⟨rfl, rfl, by omega⟩ | exact ⟨rfl, by simp; omega⟩ | exact id | (intro h; simp [h]; done) | ((repeat (first | exact trivial | exact rfl | apply And.intro)); done) | (simp; omega) | (refine ⟨?_, ?_, ?_⟩ <;> first | omega | (simp; done) | (simp; omega)) | (simp_all; done))))
          | ((first | with_reducible apply DrawR.go0 | with_reducible apply KerB.mk); (focus kernel_rfl))
          | (first | with_reducible apply ends_ret | with_reducible apply ends_norm | with_reducible apply Halt'.mk)
          | ((with_reducible apply CondD.mk) <;> intro hb <;> (try simp only [SPLT] at hb) <;> (try first | contradiction | exact absurd hb (by assumption) | exact absurd (by assumption) hb | (exfalso; omega))))
      all_goals (try exact (false : Bool))
      repeat' ((conv => whnf); first | exact trivial | with_reducible apply And.intro | with_reducible apply endsO_ret | with_reducible apply endsO_norm | exact DLes.nil | with_reducible exact DLe.refl _ | exact DLe.any _ | with_reducible apply DLes.cons | with_reducible exact rle_refl | exact rle_bool rfl | exact rle_int rfl | exact rle_nil rfl | exact rle_sl0 rfl)
      all_goals (conv => whnf)
      exact rle_int hrest
    · have hlt : k < 3 := by have := (List.getElem?_eq_some_iff.1 hx).1; simpa using this
      have hrow : ([[.int .i64 d0], [.int .i64 (b.first - a.first)], [.int .i64 (a.last - b.last)]] : List (List D))[k]? = some [.int .i64 d] := by
        have := congrArg (Option.map fun x => [D.int .i64 x]) hx
        rw [← List.getElem?_map] at this
        exact this
      rw [firstSign_drop hx] at hrest
      repeat' (
        (conv => whnf)
        first
          | ((try ((first | with_reducible apply NumE.go | with_reducible apply IdxE.go | with_reducible apply TextE.go | with_reducible apply LookE.go | with_reducible apply CallE.go); (conv => whnf))); (with_reducible apply SideD.mk); (focus (first | exact idx_nat (by assumption) | exact idx_some (by omega) (by assumption) | exact idx_eq (by assumption) (by omega) | ((try apply givesl); (focus (((apply gives_go (rank_sem _)); (focus (first | exact DLes.refl _ | (repeat (first | exact DLes.nil | ((apply DLes.cons); (focus (first | exact DLe.refl _ | exact DLe.own _ _ | exact DLe.nil _ _ | exact DLe.any _))))))); (focus exact rfl); (all_goals (first | exact rfl | assumption | omega | (simp; omega) | (simp; done)))))); (all_goals exact rfl)) | (exact idx_lit hrow rfl) | exact IntWalk.i64_in _ (by omega) | exact IntWalk.u8_in _ (by omega) | exact IntWalk.u64_in _ (by omega) | exact IntWalk.i32_in _ (by omega) | exact rfl | exact ⟨by omega, rfl⟩ | exact ⟨rfl, rfl⟩ | assumption | exact ⟨by omega, by omega⟩ | exact ⟨by omega, by simp; omega⟩ | omega | exact ⟨rfl, rfl, by simp only [List.length_map, List.length_append, List.length_cons, List.length_nil]; omega⟩ | exact ⟨rfl, rfl, by simp; omega⟩ | exact ⟨rfl, rfl, by omega⟩ | exact ⟨rfl, by simp; omega⟩ | exact id | (intro h; simp [h]; done) | ((repeat (first | exact trivial | exact rfl | apply And.intro)); done) | (simp; omega) | (refine ⟨?_, ?_, ?_⟩ <;> first | omega | (simp; done) | (simp; omega)) | (simp_all; done))))
          | ((first | with_reducible apply DrawR.go0 | with_reducible apply KerB.mk); (focus kernel_rfl))
          | (first | with_reducible apply ends_ret | with_reducible apply ends_norm | with_reducible apply Halt'.mk)
          | ((with_reducible apply CondD.mk) <;> intro hb <;> (try simp only [SPLT] at hb) <;> (try first | contradiction | exact absurd hb (by assumption) | exact absurd (by assumption) hb | (exfalso; omega))))
      all_goals (try exact (false : Bool))
      · repeat' ((conv => whnf); first | exact trivial | with_reducible apply And.intro | with_reducible apply endsO_ret | with_reducible apply endsO_norm | exact DLes.nil | with_reducible exact DLe.refl _ | exact DLe.any _ | with_reducible apply DLes.cons | with_reducible exact rle_refl | exact rle_bool rfl | exact rle_int rfl | exact rle_nil rfl | exact rle_sl0 rfl)
        all_goals (conv => whnf)
        exact rle_int (by rw [← hrest, if_pos hb])
      · rename_i hn
        repeat' ((conv => whnf); first | exact trivial | with_reducible apply And.intro | with_reducible apply endsO_ret | with_reducible apply endsO_norm | exact DLes.nil | with_reducible exact DLe.refl _ | exact DLe.any _ | with_reducible apply DLes.cons | with_reducible exact rle_refl | exact rle_bool rfl | exact rle_int rfl | exact rle_nil rfl | exact rle_sl0 rfl)
        all_goals (conv => whnf)
        exact rle_int (by rw [← hrest, if_neg (by omega), if_pos hb])
      · rename_i hn
        refine ⟨k + 1, ⟨by omega, ?_⟩, by omega, ?_⟩
        · rw [← hrest, if_neg (by omega), if_neg (by omega)]
        · (conv => whnf)
          refine ⟨?_, by rfl⟩
          repeat' ((conv => whnf); first | exact DLes.nil | with_reducible exact DLe.refl _ | exact DLe.any _ | with_reducible apply DLes.cons | exact DLe.refl _ | exact dle_int (by omega) | exact dle_nil rfl | exact DLe.own _ _)
theorem CheckAgreements8_sem (p : List Par) (l : List Agr) (hok : ∀ x ∈ p, x.Ok) (hl : ∀ a ∈ l, a.Ok) : Sem Tryz.prog 30 [.sl 0 2 (p.map Par.row), .sl 0 9 (l.map Agr.row)] (.int .i64 (agreementsN p l)) := by
  refine sem_intro (M := fun t => mem t []) hT hM Tryz.func30 inferInstance rfl rfl rfl rfl rfl rfl ?_
  repeat' (
    (conv => whnf)
    first
      | ((try ((first | with_reducible apply NumE.go | with_reducible apply IdxE.go | with_reducible apply TextE.go | with_reducible apply LookE.go | with_reducible apply CallE.go); (conv => whnf))); (with_reducible apply SideD.mk); (focus ((first | (intro hc; have hc0 := hc; (try simp only [SPLT] at hc); (try refine And.intro (by first | exact hc0 | exact ⟨hc0, hc0⟩ | exact ⟨hc0, hc0, hc0⟩) ?_)) | skip); first | exact idx_nat (by assumption) | exact idx_some (by omega) (by assumption) | exact idx_eq (by assumption) (by omega) | ((try apply givesl); (focus (((first | apply gives_go (CheckPartners8_sem _ _) | apply gives_go (isPartner8_sem _ _ _) | apply gives_go (checkAgreement_sem _ _)); (focus (first | exact DLes.refl _ | (repeat (first | exact DLes.nil | ((apply DLes.cons); (focus (first | exact DLe.refl _ | exact DLe.own _ _ | exact DLe.nil _ _ | exact DLe.any _))))))); (focus exact rfl); (all_goals (first | exact rfl | assumption | omega | (simp; omega) | (simp; done)))))); (all_goals exact rfl)) | exact IntWalk.i64_in _ (by omega) | exact IntWalk.u8_in _ (by omega) | exact IntWalk.u64_in _ (by omega) | exact IntWalk.i32_in _ (by omega) | exact rfl | exact ⟨by omega, rfl⟩ | exact ⟨rfl, rfl⟩ | assumption | exact ⟨by omega, by omega⟩ | exact ⟨by omega, by simp; omega⟩ | omega | exact ⟨rfl, rfl, by simp only [List.length_map, List.length_append, List.length_cons, List.length_nil]; omega⟩ | exact ⟨rfl, rfl, by simp; omega⟩ | exact ⟨rfl, rfl, by omega⟩ | exact ⟨rfl, by simp; omega⟩ | exact id | (intro h; simp [h]; done) | ((repeat (first | exact trivial | exact rfl | apply And.intro)); done) | (simp; omega) | (refine ⟨?_, ?_, ?_⟩ <;> first | omega | (simp; done) | (simp; omega)) | exact hc0 | exact ⟨hc0, hc0⟩ | exact ⟨hc0, hc0, hc0⟩ | (simp only [Bool.and_eq_true] at hc0; simp [hc0]; done) | (simp_all; done))))
      | ((first | with_reducible apply DrawR.go0 | with_reducible apply KerB.mk); (focus kernel_rfl))
      | (first | with_reducible apply ends_ret | with_reducible apply ends_norm | with_reducible apply Halt'.mk)
      | ((with_reducible apply CondD.mk) <;> intro hb <;> (try simp only [SPLT] at hb) <;> (try first | contradiction | exact absurd hb (by assumption) | exact absurd (by assumption) hb | (exfalso; omega))))
  all_goals (try exact (false : Bool))
  · repeat' ((conv => whnf); first | exact trivial | with_reducible apply And.intro | with_reducible apply endsO_ret | with_reducible apply endsO_norm | exact DLes.nil | with_reducible exact DLe.refl _ | exact DLe.any _ | with_reducible apply DLes.cons | with_reducible exact rle_refl | exact rle_bool rfl | exact rle_int rfl | exact rle_nil rfl | exact rle_sl0 rfl)
    all_goals (conv => whnf)
    exact rle_int (by rw [agreementsN, if_pos hb])
  · rename_i hp
    repeat' ((conv => whnf); first | exact trivial | with_reducible apply And.intro | with_reducible apply endsO_ret | with_reducible apply endsO_norm | exact DLes.nil | with_reducible exact DLe.refl _ | exact DLe.any _ | with_reducible apply DLes.cons | with_reducible exact rle_refl | exact rle_bool rfl | exact rle_int rfl | exact rle_nil rfl | exact rle_sl0 rfl)
    all_goals (conv => whnf)
    exact rle_int (by rw [agreementsN, if_neg (by simpa using hp), if_pos (by omega)])
  · rename_i hp
    have hR : agreementsN p l = agrFaults p l := by rw [agreementsN, if_neg (by simpa using hp), if_neg (by omega)]
    refine loop_go (M := fun t => mem t []) hT hM (fun k : Nat => [(19, .int .i64 k)]) (fun k => k ≤ l.length ∧ agrFaults p (l.drop k) = agrFaults p l) (fun k => l.length - k) (0) ?_ ?_ ?_
    · (conv => whnf)
      refine ⟨?_, by rfl⟩
      repeat' ((conv => whnf); first | exact DLes.nil | with_reducible exact DLe.refl _ | exact DLe.any _ | with_reducible apply DLes.cons | exact DLe.refl _ | exact dle_int (by omega) | exact dle_nil rfl | exact DLe.own _ _)
    · exact ⟨Nat.zero_le _, rfl⟩
    · rintro k ⟨hk, hrest⟩
      rcases hx : l[k]? with _ | a
      · have hk' : k = l.length := by have := List.getElem?_eq_none_iff.1 hx; omega
        subst hk'
        repeat' (
          (conv => whnf)
          first
            | ((try ((first | with_reducible apply NumE.go | with_reducible apply IdxE.go | with_reducible apply TextE.go | with_reducible apply LookE.go | with_reducible apply CallE.go); (conv => whnf))); (with_reducible apply SideD.mk); (focus ((first | (intro hc; have hc0 := hc; (try simp only [SPLT] at hc); (try refine And.intro (by first | exact hc0 | exact ⟨hc0, hc0⟩ | exact ⟨hc0, hc0, hc0⟩) ?_)) | skip); first | exact idx_nat (by assumption) | exact idx_some (by omega) (by assumption) | exact idx_eq (by assumption) (by omega) | ((try apply givesl); (focus (((first | apply gives_go (CheckPartners8_sem _ _) | apply gives_go (isPartner8_sem _ _ _) | apply gives_go (checkAgreement_sem _ _)); (focus (first | exact DLes.refl _ | (repeat (first | exact DLes.nil | ((apply DLes.cons); (focus (first | exact DLe.refl _ | exact DLe.own _ _ | exact DLe.nil _ _ | exact DLe.any _))))))); (focus exact rfl); (all_goals (first | exact rfl | assumption | omega | (simp; omega) | (simp; done)))))); (all_goals exact rfl)) | exact IntWalk.i64_in _ (by omega) | exact IntWalk.u8_in _ (by omega) | exact IntWalk.u64_in _ (by omega) | exact IntWalk.i32_in _ (by omega) | exact rfl | exact ⟨by omega, rfl⟩ | exact ⟨rfl, rfl⟩ | assumption | exact ⟨by omega, by omega⟩ | exact ⟨by omega, by simp; omega⟩ | omega | exact ⟨rfl, rfl, by simp only [List.length_map, List.length_append, List.length_cons, List.length_nil]; omega⟩ | exact ⟨rfl, rfl, by simp; omega⟩ | exact ⟨rfl, rfl, by omega⟩ | exact ⟨rfl, by simp; omega⟩ | exact id | (intro h; simp [h]; done) | ((repeat (first | exact trivial | exact rfl | apply And.intro)); done) | (simp; omega) | (refine ⟨?_, ?_, ?_⟩ <;> first | omega | (simp; done) | (simp; omega)) | exact hc0 | exact ⟨hc0, hc0⟩ | exact ⟨hc0, hc0, hc0⟩ | (simp only [Bool.and_eq_true] at hc0; simp [hc0]; done) | (simp_all; done))))
            | ((first | with_reducible apply DrawR.go0 | with_reducible apply KerB.mk); (focus kernel_rfl))
            | (first | with_reducible apply ends_ret | with_reducible apply ends_norm | with_reducible apply Halt'.mk)
            | ((with_reducible apply CondD.mk) <;> intro hb <;> (try simp only [SPLT] at hb) <;> (try first | contradiction | exact absurd hb (by assumption) | exact absurd (by assumption) hb | (exfalso; omega))))
        all_goals (try exact (false : Bool))
        repeat' ((conv => whnf); first | exact trivial | with_reducible apply And.intro | with_reducible apply endsO_ret | with_reducible apply endsO_norm | exact DLes.nil | with_reducible exact DLe.refl _ | exact DLe.any _ | with_reducible apply DLes.cons | with_reducible exact rle_refl | exact rle_bool rfl | exact rle_int rfl | exact rle_nil rfl | exact rle_sl0 rfl)
        all_goals (conv => whnf)
        refine rle_int ?_
        rw [hR, ← hrest, List.drop_length]
        rfl
      · have hlt := (List.getElem?_eq_some_iff.1 hx).1
        have hao := hl a (List.mem_of_getElem? hx)
        have hat := agrFaults_at (p := p) hx
        rw [hrest] at hat
        repeat' (
          (conv => whnf)
          first
            | ((try ((first | with_reducible apply NumE.go | with_reducible apply IdxE.go | with_reducible apply TextE.go | with_reducible apply LookE.go | with_reducible apply CallE.go); (conv => whnf))); (with_reducible apply SideD.mk); (focus ((first | (intro hc; have hc0 := hc; (try simp only [SPLT] at hc); (try refine And.intro (by first | exact hc0 | exact ⟨hc0, hc0⟩ | exact ⟨hc0, hc0, hc0⟩) ?_)) | skip); first | exact idx_nat (by assumption) | exact idx_some (by omega) (by assumption) | exact idx_eq (by assumption) (by omega) | ((try apply givesl); (focus (((first | apply gives_go (CheckPartners8_sem _ _) | apply gives_go (isPartner8_sem _ _ _) | apply gives_go (checkAgreement_sem _ _)); (focus (first | exact DLes.refl _ | (repeat (first | exact DLes.nil | ((apply DLes.cons); (focus (first | exact DLe.refl _ | exact DLe.own _ _ | exact DLe.nil _ _ | exact DLe.any _))))))); (focus exact rfl); (all_goals (first | exact rfl | assumption | omega | (simp; omega) | (simp; done)))))); (all_goals exact rfl)) | exact IntWalk.i64_in _ (by omega) | exact IntWalk.u8_in _ (by omega) | exact IntWalk.u64_in _ (by omega) | exact IntWalk.i32_in _ (by omega) | exact rfl | exact ⟨by omega, rfl⟩ | exact ⟨rfl, rfl⟩ | assumption | exact ⟨by omega, by omega⟩ | exact ⟨by omega, by simp; omega⟩ | omega | exact ⟨rfl, rfl, by simp only [List.length_map, List.length_append, List.length_cons, List.length_nil]; omega⟩ | exact ⟨rfl, rfl, by simp; omega⟩ | exact ⟨rfl, rfl, by omega⟩ | exact ⟨rfl, by simp; omega⟩ | exact id | (intro h; simp [h]; done) | ((repeat (first | exact trivial | exact rfl | apply And.intro)); done) | (simp; omega) | (refine ⟨?_, ?_, ?_⟩ <;> first | omega | (simp; done) | (simp; omega)) | exact hc0 | exact ⟨hc0, hc0⟩ | exact ⟨hc0, hc0, hc0⟩ | (simp only [Bool.and_eq_true] at hc0; simp [hc0]; done) | (simp_all; done))))
            | ((first | with_reducible apply DrawR.go0 | with_reducible apply KerB.mk); (focus kernel_rfl))
            | (first | with_reducible apply ends_ret | with_reducible apply ends_norm | with_reducible apply Halt'.mk)
            | ((with_reducible apply CondD.mk) <;> intro hb <;> (try simp only [SPLT] at hb) <;> (try first | contradiction | exact absurd hb (by assumption) | exact absurd (by assumption) hb | (exfalso; omega))))
        all_goals (try exact (false : Bool))
        · repeat' ((conv => whnf); first | exact trivial | with_reducible apply And.intro | with_reducible apply endsO_ret | with_reducible apply endsO_norm | exact DLes.nil | with_reducible exact DLe.refl _ | exact DLe.any _ | with_reducible apply DLes.cons | with_reducible exact rle_refl | exact rle_bool rfl | exact rle_int rfl | exact rle_nil rfl | exact rle_sl0 rfl)
          all_goals (conv => whnf)
          refine rle_int ?_
          rw [hR, hat, if_pos (by simpa using hb)]
        · rename_i hi
          repeat' ((conv => whnf); first | exact trivial | with_reducible apply And.intro | with_reducible apply endsO_ret | with_reducible apply endsO_norm | exact DLes.nil | with_reducible exact DLe.refl _ | exact DLe.any _ | with_reducible apply DLes.cons | with_reducible exact rle_refl | exact rle_bool rfl | exact rle_int rfl | exact rle_nil rfl | exact rle_sl0 rfl)
          all_goals (conv => whnf)
          refine rle_int ?_
          rw [hR, hat, if_neg (by simpa using hi), if_pos hb]
        · rename_i hi
          refine ⟨k + 1, ⟨by omega, ?_⟩, by omega, ?_⟩
          · rw [hat, if_neg (by simpa using hi), if_neg (by simpa using hb)]
          · (conv => whnf)
            refine ⟨?_, by rfl⟩
            repeat' ((conv => whnf); first | exact DLes.nil | with_reducible exact DLe.refl _ | exact DLe.any _ | with_reducible apply DLes.cons | exact DLe.refl _ | exact dle_int (by omega) | exact dle_nil rfl | exact DLe.own _ _)
theorem find8_sem (l : List Agr) (c : Cas) (hl : l.length ≤ 1000000) (ho : ∀ a ∈ l, ownFaultN a = 0) : Sem Tryz.prog 23 [.sl 0 9 (l.map Agr.row), c.d] (.int .i64 (findN l c)) := by
  refine sem_intro (M := fun t => mem t [7, 2000007]) hT hM Tryz.func23 inferInstance rfl rfl rfl rfl rfl rfl ?_
  repeat' (
    (conv => whnf)
    first
      | ((try ((first | with_reducible apply NumE.go | with_reducible apply IdxE.go | with_reducible apply TextE.go | with_reducible apply LookE.go | with_reducible apply CallE.go); (conv => whnf))); (with_reducible apply SideD.mk); (focus ((first | (intro hc; have hc0 := hc; (try simp only [SPLT] at hc); (try refine And.intro (by first | exact hc0 | exact ⟨hc0, hc0⟩ | exact ⟨hc0, hc0, hc0⟩) ?_)) | skip); first | exact idx_nat (by assumption) | exact idx_some (by omega) (by assumption) | exact idx_eq (by assumption) (by omega) | ((try apply givesl); (focus (((first | apply gives_go (applies8_sem _ _) | apply gives_go (better8_sem _ _ _ _)); (focus (first | exact DLes.refl _ | (repeat (first | exact DLes.nil | ((apply DLes.cons); (focus (first | exact DLe.refl _ | exact DLe.own _ _ | exact DLe.nil _ _ | exact DLe.any _))))))); (focus exact rfl); (all_goals (first | exact rfl | assumption | omega | (simp; omega) | (simp; done)))))); (all_goals exact rfl)) | exact IntWalk.i64_in _ (by omega) | exact IntWalk.u8_in _ (by omega) | exact IntWalk.u64_in _ (by omega) | exact IntWalk.i32_in _ (by omega) | exact rfl | exact ⟨by omega, rfl⟩ | exact ⟨rfl, rfl⟩ | assumption | exact ⟨by omega, by omega⟩ | exact ⟨by omega, by simp; omega⟩ | omega | exact ⟨rfl, rfl, by simp only [List.length_map, List.length_append, List.length_cons, List.length_nil]; omega⟩ | exact ⟨rfl, rfl, by simp; omega⟩ | exact ⟨rfl, rfl, by omega⟩ | exact ⟨rfl, by simp; omega⟩ | exact id | (intro h; simp [h]; done) | ((repeat (first | exact trivial | exact rfl | apply And.intro)); done) | (simp; omega) | (refine ⟨?_, ?_, ?_⟩ <;> first | omega | (simp; done) | (simp; omega)) | exact hc0 | exact ⟨hc0, hc0⟩ | exact ⟨hc0, hc0, hc0⟩ | (simp only [Bool.and_eq_true] at hc0; simp [hc0]; done) | (simp_all; done))))
      | ((first | with_reducible apply DrawR.go0 | with_reducible apply KerB.mk); (focus kernel_rfl))
      | (first | with_reducible apply ends_ret | with_reducible apply ends_norm | with_reducible apply Halt'.mk)
      | ((with_reducible apply CondD.mk) <;> intro hb <;> (try simp only [SPLT] at hb) <;> (try first | contradiction | exact absurd hb (by assumption) | exact absurd (by assumption) hb | (exfalso; omega))))
  all_goals (try exact (false : Bool))
  refine loop_go (M := fun t => mem t [7, 2000007]) hT hM (fun k : Nat => [(10, .int .i64 k), (5, .int .i64 (findAt l c k))]) (fun k => k ≤ l.length) (fun k => l.length - k) (0) ?_ ?_ ?_
  · (conv => whnf)
    refine ⟨?_, by rfl⟩
    repeat' ((conv => whnf); first | exact DLes.nil | with_reducible exact DLe.refl _ | exact DLe.any _ | with_reducible apply DLes.cons | exact DLe.refl _ | exact dle_int (by omega) | exact dle_nil rfl | exact DLe.own _ _)
  · exact Nat.zero_le _
  · intro k hk
    rcases hx : l[k]? with _ | a
    · have hk' : k = l.length := by have := List.getElem?_eq_none_iff.1 hx; omega
      subst hk'
      repeat' (
        (conv => whnf)
        first
          | ((try ((first | with_reducible apply NumE.go | with_reducible apply IdxE.go | with_reducible apply TextE.go | with_reducible apply LookE.go | with_reducible apply CallE.go); (conv => whnf))); (with_reducible apply SideD.mk); (focus ((first | (intro hc; have hc0 := hc; (try simp only [SPLT] at hc); (try refine And.intro (by first | exact hc0 | exact ⟨hc0, hc0⟩ | exact ⟨hc0, hc0, hc0⟩) ?_)) | skip); first | exact idx_nat (by assumption) | exact idx_some (by omega) (by assumption) | exact idx_eq (by assumption) (by omega) | ((try apply givesl); (focus (((first | apply gives_go (applies8_sem _ _) | apply gives_go (better8_sem _ _ _ _)); (focus (first | exact DLes.refl _ | (repeat (first | exact DLes.nil | ((apply DLes.cons); (focus (first | exact DLe.refl _ | exact DLe.own _ _ | exact DLe.nil _ _ | exact DLe.any _))))))); (focus exact rfl); (all_goals (first | exact rfl | assumption | omega | (simp; omega) | (simp; done)))))); (all_goals exact rfl)) | exact IntWalk.i64_in _ (by omega) | exact IntWalk.u8_in _ (by omega) | exact IntWalk.u64_in _ (by omega) | exact IntWalk.i32_in _ (by omega) | exact rfl | exact ⟨by omega, rfl⟩ | exact ⟨rfl, rfl⟩ | assumption | exact ⟨by omega, by omega⟩ | exact ⟨by omega, by simp; omega⟩ | omega | exact ⟨rfl, rfl, by simp only [List.length_map, List.length_append, List.length_cons, List.length_nil]; omega⟩ | exact ⟨rfl, rfl, by simp; omega⟩ | exact ⟨rfl, rfl, by omega⟩ | exact ⟨rfl, by simp; omega⟩ | exact id | (intro h; simp [h]; done) | ((repeat (first | exact trivial | exact rfl | apply And.intro)); done) | (simp; omega) | (refine ⟨?_, ?_, ?_⟩ <;> first | omega | (simp; done) | (simp; omega)) | exact hc0 | exact ⟨hc0, hc0⟩ | exact ⟨hc0, hc0, hc0⟩ | (simp only [Bool.and_eq_true] at hc0; simp [hc0]; done) | (simp_all; done))))
          | ((first | with_reducible apply DrawR.go0 | with_reducible apply KerB.mk); (focus kernel_rfl))
          | (first | with_reducible apply ends_ret | with_reducible apply ends_norm | with_reducible apply Halt'.mk)
          | ((with_reducible apply CondD.mk) <;> intro hb <;> (try simp only [SPLT] at hb) <;> (try first | contradiction | exact absurd hb (by assumption) | exact absurd (by assumption) hb | (exfalso; omega))))
      all_goals (try exact (false : Bool))
      repeat' ((conv => whnf); first | exact trivial | with_reducible apply And.intro | with_reducible apply endsO_ret | with_reducible apply endsO_norm | exact DLes.nil | with_reducible exact DLe.refl _ | exact DLe.any _ | with_reducible apply DLes.cons | with_reducible exact rle_refl | exact rle_bool rfl | exact rle_int rfl | exact rle_nil rfl | exact rle_sl0 rfl)
      all_goals (conv => whnf)
    · have hlt := (List.getElem?_eq_some_iff.1 hx).1
      have hao := ho a (List.mem_of_getElem? hx)
      have hbd := findAt_bd l c k (by omega)
      obtain ⟨q, hq⟩ : ∃ q : Agr, 0 ≤ findAt l c k → l[(findAt l c k).toNat]? = some q := by
        by_cases h : 0 ≤ findAt l c k
        · exact ⟨l[(findAt l c k).toNat], fun _ => List.getElem?_eq_getElem (by omega)⟩
        · exact ⟨a, fun h' => absurd h' h⟩
      have hqo : 0 ≤ findAt l c k → ownFaultN q = 0 := fun h => ho q (List.mem_of_getElem? (hq h))
      have hnx := findAt_next (c := c) hx
      have hbt : beats l a (findAt l c k) = (decide (findAt l c k < 0) || decide (betterN a q < 0)) := by
        unfold beats
        by_cases h : findAt l c k < 0
        · simp [h]
        · rw [hq (by omega)]
      rw [hbt] at hnx
      generalize findAt l c k = b at *
      repeat' (
        (conv => whnf)
        first
          | ((try ((first | with_reducible apply NumE.go | with_reducible apply IdxE.go | with_reducible apply TextE.go | with_reducible apply LookE.go | with_reducible apply CallE.go); (conv => whnf))); (with_reducible apply SideD.mk); (focus ((first | (intro hc; have hc0 := hc; (try simp only [SPLT] at hc); (try refine And.intro (by first | exact hc0 | exact ⟨hc0, hc0⟩ | exact ⟨hc0, hc0, hc0⟩) ?_)) | skip); first | exact idx_nat (by assumption) | exact idx_some (by omega) (by assumption) | exact idx_eq (by assumption) (by omega) | ((try apply givesl); (focus (((first | apply gives_go (better8_sem _ _ hao (hqo (by omega))) | apply gives_go (applies8_sem _ _)); (focus (first | exact DLes.refl _ | (repeat (first | exact DLes.nil | ((apply DLes.cons); (focus (first | exact DLe.refl _ | exact DLe.own _ _ | exact DLe.nil _ _ | exact DLe.any _))))))); (focus exact rfl); (all_goals (first | exact rfl | assumption | omega | (simp; omega) | (simp; done)))))); (all_goals exact rfl)) | (exact idx_some (by omega) (hq (by omega))) | exact IntWalk.i64_in _ (by omega) | exact IntWalk.u8_in _ (by omega) | exact IntWalk.u64_in _ (by omega) | exact IntWalk.i32_in _ (by omega) | exact rfl | exact ⟨by omega, rfl⟩ | exact ⟨rfl, rfl⟩ | assumption | exact ⟨by omega, by omega⟩ | exact ⟨by omega, by simp; omega⟩ | omega | exact ⟨rfl, rfl, by simp only [List.length_map, List.length_append, List.length_cons, List.length_nil]; omega⟩ | exact ⟨rfl, rfl, by simp; omega⟩ | exact ⟨rfl, rfl, by omega⟩ | exact ⟨rfl, by simp; omega⟩ | exact id | (intro h; simp [h]; done) | ((repeat (first | exact trivial | exact rfl | apply And.intro)); done) | (simp; omega) | (refine ⟨?_, ?_, ?_⟩ <;> first | omega | (simp; done) | (simp; omega)) | exact hc0 | exact ⟨hc0, hc0⟩ | exact ⟨hc0, hc0, hc0⟩ | (simp only [Bool.and_eq_true] at hc0; simp [hc0]; done) | (simp_all; done))))
          | ((first | with_reducible apply DrawR.go0 | with_reducible apply KerB.mk); (focus kernel_rfl))
          | (first | with_reducible apply ends_ret | with_reducible apply ends_norm | with_reducible apply Halt'.mk)
          | ((with_reducible apply CondD.mk) <;> intro hb <;> (try simp only [SPLT] at hb) <;> (try first | contradiction | exact absurd hb (by assumption) | exact absurd (by assumption) hb | (exfalso; omega))))
      all_goals (try exact (false : Bool))
      · refine ⟨k + 1, by omega, by omega, ?_⟩
        (conv => whnf)
        refine ⟨?_, by rfl⟩
        repeat' ((conv => whnf); first | exact DLes.nil | with_reducible exact DLe.refl _ | exact DLe.any _ | with_reducible apply DLes.cons | exact DLe.refl _ | exact dle_int (by omega) | exact dle_nil rfl | exact DLe.own _ _ | (exact dle_int (by rw [hnx, if_pos (by simpa using hb)])))
      · refine ⟨k + 1, by omega, by omega, ?_⟩
        (conv => whnf)
        refine ⟨?_, by rfl⟩
        repeat' ((conv => whnf); first | exact DLes.nil | with_reducible exact DLe.refl _ | exact DLe.any _ | with_reducible apply DLes.cons | exact DLe.refl _ | exact dle_int (by omega) | exact dle_nil rfl | exact DLe.own _ _ | (exact dle_int (by rw [hnx, if_neg (nfd hb)])))
theorem askCase_sem (p : List Par) (l : List Agr) (c : Cas) (hok : ∀ x ∈ p, x.Ok) (hl : ∀ a ∈ l, a.Ok) (hc : c.Ok) : Sem Tryz.prog 22 [.sl 0 2 (p.map Par.row), .sl 0 9 (l.map Agr.row), c.d] (.int .i64 (askedN p l c)) := by
  have hpz : agreementsN p l = 0 → partnersN p = 0 := fun h => (agreementsN_ok h).1
  refine sem_intro (M := fun t => mem t []) hT hM Tryz.func22 inferInstance rfl rfl rfl rfl rfl rfl ?_
  repeat' (
    (conv => whnf)
    first
      | ((try ((first | with_reducible apply NumE.go | with_reducible apply IdxE.go | with_reducible apply TextE.go | with_reducible apply LookE.go | with_reducible apply CallE.go); (conv => whnf))); (with_reducible apply SideD.mk); (focus ((first | (intro hc; have hc0 := hc; (try simp only [SPLT] at hc); (try refine And.intro (by first | exact hc0 | exact ⟨hc0, hc0⟩ | exact ⟨hc0, hc0, hc0⟩) ?_)) | skip); first | exact idx_nat (by assumption) | exact idx_some (by omega) (by assumption) | exact idx_eq (by assumption) (by omega) | ((try apply givesl); (focus (((first | apply gives_go (isPartner8_sem _ _ (hpz (by assumption))) | apply gives_go (CheckAgreements8_sem _ _ _ _) | apply gives_go (checkWhole_sem _ _)); (focus (first | exact DLes.refl _ | (repeat (first | exact DLes.nil | ((apply DLes.cons); (focus (first | exact DLe.refl _ | exact DLe.own _ _ | exact DLe.nil _ _ | exact DLe.any _))))))); (focus exact rfl); (all_goals (first | exact rfl | assumption | omega | (simp; omega) | (simp; done)))))); (all_goals exact rfl)) | exact IntWalk.i64_in _ (by omega) | exact IntWalk.u8_in _ (by omega) | exact IntWalk.u64_in _ (by omega) | exact IntWalk.i32_in _ (by omega) | exact rfl | exact ⟨by omega, rfl⟩ | exact ⟨rfl, rfl⟩ | assumption | exact ⟨by omega, by omega⟩ | exact ⟨by omega, by simp; omega⟩ | omega | exact ⟨rfl, rfl, by simp only [List.length_map, List.length_append, List.length_cons, List.length_nil]; omega⟩ | exact ⟨rfl, rfl, by simp; omega⟩ | exact ⟨rfl, rfl, by omega⟩ | exact ⟨rfl, by simp; omega⟩ | exact id | (intro h; simp [h]; done) | ((repeat (first | exact trivial | exact rfl | apply And.intro)); done) | (simp; omega) | (refine ⟨?_, ?_, ?_⟩ <;> first | omega | (simp; done) | (simp; omega)) | exact hc0 | exact ⟨hc0, hc0⟩ | exact ⟨hc0, hc0, hc0⟩ | (simp only [Bool.and_eq_true] at hc0; simp [hc0]; done) | (simp_all; done))))
      | ((first | with_reducible apply DrawR.go0 | with_reducible apply KerB.mk); (focus kernel_rfl))
      | (first | with_reducible apply ends_ret | with_reducible apply ends_norm | with_reducible apply Halt'.mk)
      | ((with_reducible apply CondD.mk) <;> intro hb <;> (try simp only [SPLT] at hb) <;> (try first | contradiction | exact absurd hb (by assumption) | exact absurd (by assumption) hb | (exfalso; omega))))
  all_goals (try exact (false : Bool))
  all_goals
    repeat' ((conv => whnf); first | exact trivial | with_reducible apply And.intro | with_reducible apply endsO_ret | with_reducible apply endsO_norm | exact DLes.nil | with_reducible exact DLe.refl _ | exact DLe.any _ | with_reducible apply DLes.cons | with_reducible exact rle_refl | exact rle_bool rfl | exact rle_int rfl | exact rle_nil rfl | exact rle_sl0 rfl)
    all_goals (conv => whnf)
    refine rle_int ?_
    simp_all [askedN]
end Go.Proofs.YthbhjladfniboaaGreatDoor
