/- PartnersMatchSpec: the walks. -/
import Derived.Test.YtdopillligfdiaaDoorN1
namespace Go.Proofs.YtdopillligfdiaaDoor
set_option linter.unusedSimpArgs false
set_option linter.unusedVariables false
open Go.RowKit
set_option maxRecDepth 100000
set_option maxHeartbeats 1000000

theorem checkSeries19_sem : Sem Tryd.prog 97 [.agg [.int .i64 1, .int .i64 9]] (.int .i64 0) := by
  refine sem_intro (M := fun t => mem t []) hT hM Tryd.func97 inferInstance rfl rfl rfl rfl rfl rfl ?_
  repeat' (
    (conv => whnf)
    first
      | ((with_reducible apply NumE.go); (conv => whnf); (with_reducible apply SideD.mk); (focus ((first | (intro hc; have hc0 := hc; (try simp only [SPLT] at hc); (try refine And.intro (by first | exact hc0 | exact ⟨hc0, hc0⟩ | exact ⟨hc0, hc0, hc0⟩) ?_)) | skip); first | exact shr_one _ | exact IntWalk.i64_in _ (by omega) | exact IntWalk.u8_in _ (by omega) | exact ⟨by omega, IntWalk.i64_quo _ _ ⟨by omega, by omega, by omega⟩⟩ | exact ⟨by omega, IntWalk.rem_in _ _ (by omega)⟩ | exact IntWalk.u64_in _ (by omega) | exact IntWalk.i32_in _ (by omega) | exact rfl | exact ⟨by omega, rfl⟩ | exact hc0 | exact ⟨hc0, hc0⟩ | exact ⟨hc0, hc0, hc0⟩ | (simp only [Bool.and_eq_true] at hc0; simp [hc0]; done) | (simp_all; done))))
      | ((with_reducible apply IdxE.go); (conv => whnf); (with_reducible apply SideD.mk); (focus ((first | (intro hc; have hc0 := hc; (try simp only [SPLT] at hc); (try refine And.intro (by first | exact hc0 | exact ⟨hc0, hc0⟩ | exact ⟨hc0, hc0, hc0⟩) ?_)) | skip); first | exact idx_nat (by assumption) | exact idx_some (by omega) (by assumption) | exact idx_eq (by assumption) (by omega) | exact hc0 | exact ⟨hc0, hc0⟩ | exact ⟨hc0, hc0, hc0⟩ | (simp only [Bool.and_eq_true] at hc0; simp [hc0]; done) | (simp_all; done))))
      | ((with_reducible apply LookE.go); (conv => whnf); (with_reducible apply SideD.mk); (focus ((first | (intro hc; have hc0 := hc; (try simp only [SPLT] at hc); (try refine And.intro (by first | exact hc0 | exact ⟨hc0, hc0⟩ | exact ⟨hc0, hc0, hc0⟩) ?_)) | skip); first | exact ⟨rfl, rfl⟩ | exact rfl | exact hc0 | exact ⟨hc0, hc0⟩ | exact ⟨hc0, hc0, hc0⟩ | (simp only [Bool.and_eq_true] at hc0; simp [hc0]; done) | (simp_all; done))))
      | ((with_reducible apply CallE.go); (conv => whnf); (with_reducible apply SideD.mk); (focus ((first | (intro hc; have hc0 := hc; (try simp only [SPLT] at hc); (try refine And.intro (by first | exact hc0 | exact ⟨hc0, hc0⟩ | exact ⟨hc0, hc0, hc0⟩) ?_)) | skip); first | ((try refine GivesL.mk rfl ?_); first | ((apply gives_go (outside_sem _ _ _)); (focus (first | exact DLes.refl _ | (repeat (first | exact DLes.nil | ((apply DLes.cons); (focus (first | exact DLe.refl _ | exact DLe.own _ _ | exact DLe.nil _ _ | exact DLe.any _))))))); (focus exact rfl); (all_goals (first | exact rfl | assumption | omega | (simp; omega) | (simp; done))))) | exact hc0 | exact ⟨hc0, hc0⟩ | exact ⟨hc0, hc0, hc0⟩ | (simp only [Bool.and_eq_true] at hc0; simp [hc0]; done) | (simp_all; done))))
      | ((with_reducible apply CallO.go); (conv => whnf); (with_reducible apply SideD.mk); (focus (first | fail)))
      | ((with_reducible apply SideD.mk); (focus ((first | (intro hc; have hc0 := hc; (try simp only [SPLT] at hc); (try refine And.intro (by first | exact hc0 | exact ⟨hc0, hc0⟩ | exact ⟨hc0, hc0, hc0⟩) ?_)) | skip); first | exact ⟨by omega, by omega⟩ | omega | exact ⟨rfl, rfl, by simp only [List.length_map, List.length_append, List.length_cons, List.length_nil]; omega⟩ | exact ⟨rfl, rfl, by simp; omega⟩ | exact ⟨rfl, rfl, by omega⟩ | exact ⟨rfl, by simp; omega⟩ | exact id | (intro h; simp [h]; done) | ((repeat (first | exact trivial | exact rfl | apply And.intro)); done) | (simp; omega) | (refine ⟨?_, ?_, ?_⟩ <;> (simp; omega)) | exact hc0 | exact ⟨hc0, hc0⟩ | exact ⟨hc0, hc0, hc0⟩ | (simp only [Bool.and_eq_true] at hc0; simp [hc0]; done) | (simp_all; done))))
      | ((with_reducible apply DrawR.go0); (focus kernel_rfl))
      | ((with_reducible apply KerB.mk); (focus kernel_rfl))
      | with_reducible apply ends_ret
      | with_reducible apply ends_norm
      | with_reducible apply Halt'.mk
      | ((with_reducible apply CondD.mk) <;> intro hb <;> (try simp only [SPLT] at hb) <;> (try first | contradiction | exact absurd hb (by assumption) | exact absurd (by assumption) hb | (exfalso; omega))))
  all_goals (try exact (false : Bool))
  repeat' ((conv => whnf); first | exact trivial | with_reducible apply And.intro | with_reducible apply endsO_ret | with_reducible apply endsO_norm | exact DLes.nil | with_reducible exact DLe.refl _ | exact DLe.any _ | with_reducible apply DLes.cons | with_reducible exact rle_refl | exact rle_bool rfl | exact rle_int rfl | exact rle_nil rfl | exact rle_sl0 rfl)
  all_goals (conv => whnf)
theorem isOf19_sem : Sem Tryd.prog 98 [.agg [.int .i64 1, .int .i64 9], .int .i64 9] (.bool true) := by
  refine sem_intro (M := fun t => mem t []) hT hM Tryd.func98 inferInstance rfl rfl rfl rfl rfl rfl ?_
  repeat' (
    (conv => whnf)
    first
      | ((with_reducible apply NumE.go); (conv => whnf); (with_reducible apply SideD.mk); (focus ((first | (intro hc; have hc0 := hc; (try simp only [SPLT] at hc); (try refine And.intro (by first | exact hc0 | exact ⟨hc0, hc0⟩ | exact ⟨hc0, hc0, hc0⟩) ?_)) | skip); first | exact shr_one _ | exact IntWalk.i64_in _ (by omega) | exact IntWalk.u8_in _ (by omega) | exact ⟨by omega, IntWalk.i64_quo _ _ ⟨by omega, by omega, by omega⟩⟩ | exact ⟨by omega, IntWalk.rem_in _ _ (by omega)⟩ | exact IntWalk.u64_in _ (by omega) | exact IntWalk.i32_in _ (by omega) | exact rfl | exact ⟨by omega, rfl⟩ | exact hc0 | exact ⟨hc0, hc0⟩ | exact ⟨hc0, hc0, hc0⟩ | (simp only [Bool.and_eq_true] at hc0; simp [hc0]; done) | (simp_all; done))))
      | ((with_reducible apply IdxE.go); (conv => whnf); (with_reducible apply SideD.mk); (focus ((first | (intro hc; have hc0 := hc; (try simp only [SPLT] at hc); (try refine And.intro (by first | exact hc0 | exact ⟨hc0, hc0⟩ | exact ⟨hc0, hc0, hc0⟩) ?_)) | skip); first | exact idx_nat (by assumption) | exact idx_some (by omega) (by assumption) | exact idx_eq (by assumption) (by omega) | exact hc0 | exact ⟨hc0, hc0⟩ | exact ⟨hc0, hc0, hc0⟩ | (simp only [Bool.and_eq_true] at hc0; simp [hc0]; done) | (simp_all; done))))
      | ((with_reducible apply LookE.go); (conv => whnf); (with_reducible apply SideD.mk); (focus ((first | (intro hc; have hc0 := hc; (try simp only [SPLT] at hc); (try refine And.intro (by first | exact hc0 | exact ⟨hc0, hc0⟩ | exact ⟨hc0, hc0, hc0⟩) ?_)) | skip); first | exact ⟨rfl, rfl⟩ | exact rfl | exact hc0 | exact ⟨hc0, hc0⟩ | exact ⟨hc0, hc0, hc0⟩ | (simp only [Bool.and_eq_true] at hc0; simp [hc0]; done) | (simp_all; done))))
      | ((with_reducible apply CallE.go); (conv => whnf); (with_reducible apply SideD.mk); (focus ((first | (intro hc; have hc0 := hc; (try simp only [SPLT] at hc); (try refine And.intro (by first | exact hc0 | exact ⟨hc0, hc0⟩ | exact ⟨hc0, hc0, hc0⟩) ?_)) | skip); first | ((try refine GivesL.mk rfl ?_); first | ((apply gives_go (outside_sem _ _ _)); (focus (first | exact DLes.refl _ | (repeat (first | exact DLes.nil | ((apply DLes.cons); (focus (first | exact DLe.refl _ | exact DLe.own _ _ | exact DLe.nil _ _ | exact DLe.any _))))))); (focus exact rfl); (all_goals (first | exact rfl | assumption | omega | (simp; omega) | (simp; done))))) | exact hc0 | exact ⟨hc0, hc0⟩ | exact ⟨hc0, hc0, hc0⟩ | (simp only [Bool.and_eq_true] at hc0; simp [hc0]; done) | (simp_all; done))))
      | ((with_reducible apply CallO.go); (conv => whnf); (with_reducible apply SideD.mk); (focus (first | fail)))
      | ((with_reducible apply SideD.mk); (focus ((first | (intro hc; have hc0 := hc; (try simp only [SPLT] at hc); (try refine And.intro (by first | exact hc0 | exact ⟨hc0, hc0⟩ | exact ⟨hc0, hc0, hc0⟩) ?_)) | skip); first | exact ⟨by omega, by omega⟩ | omega | exact ⟨rfl, rfl, by simp only [List.length_map, List.length_append, List.length_cons, List.length_nil]; omega⟩ | exact ⟨rfl, rfl, by simp; omega⟩ | exact ⟨rfl, rfl, by omega⟩ | exact ⟨rfl, by simp; omega⟩ | exact id | (intro h; simp [h]; done) | ((repeat (first | exact trivial | exact rfl | apply And.intro)); done) | (simp; omega) | (refine ⟨?_, ?_, ?_⟩ <;> (simp; omega)) | exact hc0 | exact ⟨hc0, hc0⟩ | exact ⟨hc0, hc0, hc0⟩ | (simp only [Bool.and_eq_true] at hc0; simp [hc0]; done) | (simp_all; done))))
      | ((with_reducible apply DrawR.go0); (focus kernel_rfl))
      | ((with_reducible apply KerB.mk); (focus kernel_rfl))
      | with_reducible apply ends_ret
      | with_reducible apply ends_norm
      | with_reducible apply Halt'.mk
      | ((with_reducible apply CondD.mk) <;> intro hb <;> (try simp only [SPLT] at hb) <;> (try first | contradiction | exact absurd hb (by assumption) | exact absurd (by assumption) hb | (exfalso; omega))))
  all_goals (try exact (false : Bool))
  repeat' ((conv => whnf); first | exact trivial | with_reducible apply And.intro | with_reducible apply endsO_ret | with_reducible apply endsO_norm | exact DLes.nil | with_reducible exact DLe.refl _ | exact DLe.any _ | with_reducible apply DLes.cons | with_reducible exact rle_refl | exact rle_bool rfl | exact rle_int rfl | exact rle_nil rfl | exact rle_sl0 rfl)
  all_goals (conv => whnf)
theorem next19_sem : Sem Tryd.prog 48 [.agg [.int .i64 1, .int .i64 9], .int .i64 9] (.tup [.int .i64 1, .int .i64 0]) := by
  refine sem_intro (M := fun t => mem t []) hT hM Tryd.func48 inferInstance rfl rfl rfl rfl rfl rfl ?_
  repeat' (
    (conv => whnf)
    first
      | ((with_reducible apply NumE.go); (conv => whnf); (with_reducible apply SideD.mk); (focus ((first | (intro hc; have hc0 := hc; (try simp only [SPLT] at hc); (try refine And.intro (by first | exact hc0 | exact ⟨hc0, hc0⟩ | exact ⟨hc0, hc0, hc0⟩) ?_)) | skip); first | exact shr_one _ | exact IntWalk.i64_in _ (by omega) | exact IntWalk.u8_in _ (by omega) | exact ⟨by omega, IntWalk.i64_quo _ _ ⟨by omega, by omega, by omega⟩⟩ | exact ⟨by omega, IntWalk.rem_in _ _ (by omega)⟩ | exact IntWalk.u64_in _ (by omega) | exact IntWalk.i32_in _ (by omega) | exact rfl | exact ⟨by omega, rfl⟩ | exact hc0 | exact ⟨hc0, hc0⟩ | exact ⟨hc0, hc0, hc0⟩ | (simp only [Bool.and_eq_true] at hc0; simp [hc0]; done) | (simp_all; done))))
      | ((with_reducible apply IdxE.go); (conv => whnf); (with_reducible apply SideD.mk); (focus ((first | (intro hc; have hc0 := hc; (try simp only [SPLT] at hc); (try refine And.intro (by first | exact hc0 | exact ⟨hc0, hc0⟩ | exact ⟨hc0, hc0, hc0⟩) ?_)) | skip); first | exact idx_nat (by assumption) | exact idx_some (by omega) (by assumption) | exact idx_eq (by assumption) (by omega) | exact hc0 | exact ⟨hc0, hc0⟩ | exact ⟨hc0, hc0, hc0⟩ | (simp only [Bool.and_eq_true] at hc0; simp [hc0]; done) | (simp_all; done))))
      | ((with_reducible apply LookE.go); (conv => whnf); (with_reducible apply SideD.mk); (focus ((first | (intro hc; have hc0 := hc; (try simp only [SPLT] at hc); (try refine And.intro (by first | exact hc0 | exact ⟨hc0, hc0⟩ | exact ⟨hc0, hc0, hc0⟩) ?_)) | skip); first | exact ⟨rfl, rfl⟩ | exact rfl | exact hc0 | exact ⟨hc0, hc0⟩ | exact ⟨hc0, hc0, hc0⟩ | (simp only [Bool.and_eq_true] at hc0; simp [hc0]; done) | (simp_all; done))))
      | ((with_reducible apply CallE.go); (conv => whnf); (with_reducible apply SideD.mk); (focus ((first | (intro hc; have hc0 := hc; (try simp only [SPLT] at hc); (try refine And.intro (by first | exact hc0 | exact ⟨hc0, hc0⟩ | exact ⟨hc0, hc0, hc0⟩) ?_)) | skip); first | ((try refine GivesL.mk rfl ?_); first | ((apply gives_go (checkSeries19_sem )); (focus (first | exact DLes.refl _ | (repeat (first | exact DLes.nil | ((apply DLes.cons); (focus (first | exact DLe.refl _ | exact DLe.own _ _ | exact DLe.nil _ _ | exact DLe.any _))))))); (focus exact rfl); (all_goals (first | exact rfl | assumption | omega | (simp; omega) | (simp; done)))) | ((apply gives_go (isOf19_sem )); (focus (first | exact DLes.refl _ | (repeat (first | exact DLes.nil | ((apply DLes.cons); (focus (first | exact DLe.refl _ | exact DLe.own _ _ | exact DLe.nil _ _ | exact DLe.any _))))))); (focus exact rfl); (all_goals (first | exact rfl | assumption | omega | (simp; omega) | (simp; done))))) | exact hc0 | exact ⟨hc0, hc0⟩ | exact ⟨hc0, hc0, hc0⟩ | (simp only [Bool.and_eq_true] at hc0; simp [hc0]; done) | (simp_all; done))))
      | ((with_reducible apply CallO.go); (conv => whnf); (with_reducible apply SideD.mk); (focus (first | fail)))
      | ((with_reducible apply SideD.mk); (focus ((first | (intro hc; have hc0 := hc; (try simp only [SPLT] at hc); (try refine And.intro (by first | exact hc0 | exact ⟨hc0, hc0⟩ | exact ⟨hc0, hc0, hc0⟩) ?_)) | skip); first | exact ⟨by omega, by omega⟩ | omega | exact ⟨rfl, rfl, by simp only [List.length_map, List.length_append, List.length_cons, List.length_nil]; omega⟩ | exact ⟨rfl, rfl, by simp; omega⟩ | exact ⟨rfl, rfl, by omega⟩ | exact ⟨rfl, by simp; omega⟩ | exact id | (intro h; simp [h]; done) | ((repeat (first | exact trivial | exact rfl | apply And.intro)); done) | (simp; omega) | (refine ⟨?_, ?_, ?_⟩ <;> (simp; omega)) | exact hc0 | exact ⟨hc0, hc0⟩ | exact ⟨hc0, hc0, hc0⟩ | (simp only [Bool.and_eq_true] at hc0; simp [hc0]; done) | (simp_all; done))))
      | ((with_reducible apply DrawR.go0); (focus kernel_rfl))
      | ((with_reducible apply KerB.mk); (focus kernel_rfl))
      | with_reducible apply ends_ret
      | with_reducible apply ends_norm
      | with_reducible apply Halt'.mk
      | ((with_reducible apply CondD.mk) <;> intro hb <;> (try simp only [SPLT] at hb) <;> (try first | contradiction | exact absurd hb (by assumption) | exact absurd (by assumption) hb | (exfalso; omega))))
  all_goals (try exact (false : Bool))
  repeat' ((conv => whnf); first | exact trivial | with_reducible apply And.intro | with_reducible apply endsO_ret | with_reducible apply endsO_norm | exact DLes.nil | with_reducible exact DLe.refl _ | exact DLe.any _ | with_reducible apply DLes.cons | with_reducible exact rle_refl | exact rle_bool rfl | exact rle_int rfl | exact rle_nil rfl | exact rle_sl0 rfl)
  all_goals (conv => whnf)
theorem awake_sem : Sem Tryd.prog 15 [] (.bool true) := by
  refine sem_intro (M := fun t => mem t []) hT hM Tryd.func15 inferInstance rfl rfl rfl rfl rfl rfl ?_
  repeat' (
    (conv => whnf)
    first
      | ((with_reducible apply NumE.go); (conv => whnf); (with_reducible apply SideD.mk); (focus ((first | (intro hc; have hc0 := hc; (try simp only [SPLT] at hc); (try refine And.intro (by first | exact hc0 | exact ⟨hc0, hc0⟩ | exact ⟨hc0, hc0, hc0⟩) ?_)) | skip); first | exact shr_one _ | exact IntWalk.i64_in _ (by omega) | exact IntWalk.u8_in _ (by omega) | exact ⟨by omega, IntWalk.i64_quo _ _ ⟨by omega, by omega, by omega⟩⟩ | exact ⟨by omega, IntWalk.rem_in _ _ (by omega)⟩ | exact IntWalk.u64_in _ (by omega) | exact IntWalk.i32_in _ (by omega) | exact rfl | exact ⟨by omega, rfl⟩ | exact hc0 | exact ⟨hc0, hc0⟩ | exact ⟨hc0, hc0, hc0⟩ | (simp only [Bool.and_eq_true] at hc0; simp [hc0]; done) | (simp_all; done))))
      | ((with_reducible apply IdxE.go); (conv => whnf); (with_reducible apply SideD.mk); (focus ((first | (intro hc; have hc0 := hc; (try simp only [SPLT] at hc); (try refine And.intro (by first | exact hc0 | exact ⟨hc0, hc0⟩ | exact ⟨hc0, hc0, hc0⟩) ?_)) | skip); first | exact idx_nat (by assumption) | exact idx_some (by omega) (by assumption) | exact idx_eq (by assumption) (by omega) | exact hc0 | exact ⟨hc0, hc0⟩ | exact ⟨hc0, hc0, hc0⟩ | (simp only [Bool.and_eq_true] at hc0; simp [hc0]; done) | (simp_all; done))))
      | ((with_reducible apply LookE.go); (conv => whnf); (with_reducible apply SideD.mk); (focus ((first | (intro hc; have hc0 := hc; (try simp only [SPLT] at hc); (try refine And.intro (by first | exact hc0 | exact ⟨hc0, hc0⟩ | exact ⟨hc0, hc0, hc0⟩) ?_)) | skip); first | exact ⟨rfl, rfl⟩ | exact rfl | exact hc0 | exact ⟨hc0, hc0⟩ | exact ⟨hc0, hc0, hc0⟩ | (simp only [Bool.and_eq_true] at hc0; simp [hc0]; done) | (simp_all; done))))
      | ((with_reducible apply CallE.go); (conv => whnf); (with_reducible apply SideD.mk); (focus ((first | (intro hc; have hc0 := hc; (try simp only [SPLT] at hc); (try refine And.intro (by first | exact hc0 | exact ⟨hc0, hc0⟩ | exact ⟨hc0, hc0, hc0⟩) ?_)) | skip); first | ((try refine GivesL.mk rfl ?_); first | ((apply gives_go (next19_sem )); (focus (first | exact DLes.refl _ | (repeat (first | exact DLes.nil | ((apply DLes.cons); (focus (first | exact DLe.refl _ | exact DLe.own _ _ | exact DLe.nil _ _ | exact DLe.any _))))))); (focus exact rfl); (all_goals (first | exact rfl | assumption | omega | (simp; omega) | (simp; done))))) | exact hc0 | exact ⟨hc0, hc0⟩ | exact ⟨hc0, hc0, hc0⟩ | (simp only [Bool.and_eq_true] at hc0; simp [hc0]; done) | (simp_all; done))))
      | ((with_reducible apply CallO.go); (conv => whnf); (with_reducible apply SideD.mk); (focus (first | fail)))
      | ((with_reducible apply SideD.mk); (focus ((first | (intro hc; have hc0 := hc; (try simp only [SPLT] at hc); (try refine And.intro (by first | exact hc0 | exact ⟨hc0, hc0⟩ | exact ⟨hc0, hc0, hc0⟩) ?_)) | skip); first | exact ⟨by omega, by omega⟩ | omega | exact ⟨rfl, rfl, by simp only [List.length_map, List.length_append, List.length_cons, List.length_nil]; omega⟩ | exact ⟨rfl, rfl, by simp; omega⟩ | exact ⟨rfl, rfl, by omega⟩ | exact ⟨rfl, by simp; omega⟩ | exact id | (intro h; simp [h]; done) | ((repeat (first | exact trivial | exact rfl | apply And.intro)); done) | (simp; omega) | (refine ⟨?_, ?_, ?_⟩ <;> (simp; omega)) | exact hc0 | exact ⟨hc0, hc0⟩ | exact ⟨hc0, hc0, hc0⟩ | (simp only [Bool.and_eq_true] at hc0; simp [hc0]; done) | (simp_all; done))))
      | ((with_reducible apply DrawR.go0); (focus kernel_rfl))
      | ((with_reducible apply KerB.mk); (focus kernel_rfl))
      | with_reducible apply ends_ret
      | with_reducible apply ends_norm
      | with_reducible apply Halt'.mk
      | ((with_reducible apply CondD.mk) <;> intro hb <;> (try simp only [SPLT] at hb) <;> (try first | contradiction | exact absurd hb (by assumption) | exact absurd (by assumption) hb | (exfalso; omega))))
  all_goals (try exact (false : Bool))
  repeat' ((conv => whnf); first | exact trivial | with_reducible apply And.intro | with_reducible apply endsO_ret | with_reducible apply endsO_norm | exact DLes.nil | with_reducible exact DLe.refl _ | exact DLe.any _ | with_reducible apply DLes.cons | with_reducible exact rle_refl | exact rle_bool rfl | exact rle_int rfl | exact rle_nil rfl | exact rle_sl0 rfl)
  all_goals (conv => whnf)
theorem idx_at {a : Adr} : ∀ {l : List Adr} {k : Nat}, l[k]? = some a → a ∉ l.take k → l.idxOf a = k
  | [], k, h, _ => by simp at h
  | b :: l, 0, h, _ => by cases h; simp
  | b :: l, k + 1, h, hn => by
    simp only [List.take_succ_cons, List.mem_cons, not_or] at hn
    have ih := idx_at (l := l) (k := k) (by simpa using h) hn.2
    rw [List.idxOf_cons]
    have : (b == a) = false := by simpa using fun e => hn.1 e.symm
    rw [this, ih]
    rfl
theorem index_sem (l : List Adr) (a : Adr) (hl : l.length ≤ 1000000000) : Sem Tryd.prog 102 [.sl 0 2 (l.map Adr.row), a.d] (.int .i64 (if a ∈ l then (l.idxOf a : Int) else -1)) := by
  refine sem_intro (M := fun t => mem t []) hT hM Tryd.func102 inferInstance rfl rfl rfl rfl rfl rfl ?_
  repeat' (
    (conv => whnf)
    first
      | ((with_reducible apply NumE.go); (conv => whnf); (with_reducible apply SideD.mk); (focus ((first | (intro hc; have hc0 := hc; (try simp only [SPLT] at hc); (try refine And.intro (by first | exact hc0 | exact ⟨hc0, hc0⟩ | exact ⟨hc0, hc0, hc0⟩) ?_)) | skip); first | exact shr_one _ | exact IntWalk.i64_in _ (by omega) | exact IntWalk.u8_in _ (by omega) | exact ⟨by omega, IntWalk.i64_quo _ _ ⟨by omega, by omega, by omega⟩⟩ | exact ⟨by omega, IntWalk.rem_in _ _ (by omega)⟩ | exact IntWalk.u64_in _ (by omega) | exact IntWalk.i32_in _ (by omega) | exact rfl | exact ⟨by omega, rfl⟩ | exact hc0 | exact ⟨hc0, hc0⟩ | exact ⟨hc0, hc0, hc0⟩ | (simp only [Bool.and_eq_true] at hc0; simp [hc0]; done) | (simp_all; done))))
      | ((with_reducible apply IdxE.go); (conv => whnf); (with_reducible apply SideD.mk); (focus ((first | (intro hc; have hc0 := hc; (try simp only [SPLT] at hc); (try refine And.intro (by first | exact hc0 | exact ⟨hc0, hc0⟩ | exact ⟨hc0, hc0, hc0⟩) ?_)) | skip); first | exact idx_nat (by assumption) | exact idx_some (by omega) (by assumption) | exact idx_eq (by assumption) (by omega) | exact hc0 | exact ⟨hc0, hc0⟩ | exact ⟨hc0, hc0, hc0⟩ | (simp only [Bool.and_eq_true] at hc0; simp [hc0]; done) | (simp_all; done))))
      | ((with_reducible apply LookE.go); (conv => whnf); (with_reducible apply SideD.mk); (focus ((first | (intro hc; have hc0 := hc; (try simp only [SPLT] at hc); (try refine And.intro (by first | exact hc0 | exact ⟨hc0, hc0⟩ | exact ⟨hc0, hc0, hc0⟩) ?_)) | skip); first | exact ⟨rfl, rfl⟩ | exact rfl | exact hc0 | exact ⟨hc0, hc0⟩ | exact ⟨hc0, hc0, hc0⟩ | (simp only [Bool.and_eq_true] at hc0; simp [hc0]; done) | (simp_all; done))))
      | ((with_reducible apply CallE.go); (conv => whnf); (with_reducible apply SideD.mk); (focus ((first | (intro hc; have hc0 := hc; (try simp only [SPLT] at hc); (try refine And.intro (by first | exact hc0 | exact ⟨hc0, hc0⟩ | exact ⟨hc0, hc0, hc0⟩) ?_)) | skip); first | ((try refine GivesL.mk rfl ?_); first | fail) | exact hc0 | exact ⟨hc0, hc0⟩ | exact ⟨hc0, hc0, hc0⟩ | (simp only [Bool.and_eq_true] at hc0; simp [hc0]; done) | (simp_all; done))))
      | ((with_reducible apply CallO.go); (conv => whnf); (with_reducible apply SideD.mk); (focus (first | fail)))
      | ((with_reducible apply SideD.mk); (focus ((first | (intro hc; have hc0 := hc; (try simp only [SPLT] at hc); (try refine And.intro (by first | exact hc0 | exact ⟨hc0, hc0⟩ | exact ⟨hc0, hc0, hc0⟩) ?_)) | skip); first | exact ⟨by omega, by omega⟩ | omega | exact ⟨rfl, rfl, by simp only [List.length_map, List.length_append, List.length_cons, List.length_nil]; omega⟩ | exact ⟨rfl, rfl, by simp; omega⟩ | exact ⟨rfl, rfl, by omega⟩ | exact ⟨rfl, by simp; omega⟩ | exact id | (intro h; simp [h]; done) | ((repeat (first | exact trivial | exact rfl | apply And.intro)); done) | (simp; omega) | (refine ⟨?_, ?_, ?_⟩ <;> (simp; omega)) | exact hc0 | exact ⟨hc0, hc0⟩ | exact ⟨hc0, hc0, hc0⟩ | (simp only [Bool.and_eq_true] at hc0; simp [hc0]; done) | (simp_all; done))))
      | ((with_reducible apply DrawR.go0); (focus kernel_rfl))
      | ((with_reducible apply KerB.mk); (focus kernel_rfl))
      | with_reducible apply ends_ret
      | with_reducible apply ends_norm
      | with_reducible apply Halt'.mk
      | ((with_reducible apply CondD.mk) <;> intro hb <;> (try simp only [SPLT] at hb) <;> (try first | contradiction | exact absurd hb (by assumption) | exact absurd (by assumption) hb | (exfalso; omega))))
  all_goals (try exact (false : Bool))
  refine loop_go (M := fun t => mem t []) hT hM (fun k : Nat => [(8, .int .i64 k)]) (fun k => k ≤ l.length ∧ a ∉ l.take k) (fun k => l.length - k) (0) ?_ ?_ ?_
  · (conv => whnf)
    refine ⟨?_, by rfl⟩
    repeat' ((conv => whnf); first | exact DLes.nil | with_reducible exact DLe.refl _ | exact DLe.any _ | with_reducible apply DLes.cons | exact DLe.refl _ | exact dle_int (by omega) | exact dle_nil rfl | exact DLe.own _ _)
  · exact ⟨Nat.zero_le _, by simp⟩
  · rintro k ⟨hk, hno⟩
    rcases hx : l[k]? with _ | x
    · have hk' : k = l.length := by have := List.getElem?_eq_none_iff.1 hx; omega
      subst hk'
      rw [List.take_length] at hno
      repeat' (
        (conv => whnf)
        first
          | ((with_reducible apply NumE.go); (conv => whnf); (with_reducible apply SideD.mk); (focus ((first | (intro hc; have hc0 := hc; (try simp only [SPLT] at hc); (try refine And.intro (by first | exact hc0 | exact ⟨hc0, hc0⟩ | exact ⟨hc0, hc0, hc0⟩) ?_)) | skip); first | exact shr_one _ | exact IntWalk.i64_in _ (by omega) | exact IntWalk.u8_in _ (by omega) | exact ⟨by omega, IntWalk.i64_quo _ _ ⟨by omega, by omega, by omega⟩⟩ | exact ⟨by omega, IntWalk.rem_in _ _ (by omega)⟩ | exact IntWalk.u64_in _ (by omega) | exact IntWalk.i32_in _ (by omega) | exact rfl | exact ⟨by omega, rfl⟩ | exact hc0 | exact ⟨hc0, hc0⟩ | exact ⟨hc0, hc0, hc0⟩ | (simp only [Bool.and_eq_true] at hc0; simp [hc0]; done) | (simp_all; done))))
          | ((with_reducible apply IdxE.go); (conv => whnf); (with_reducible apply SideD.mk); (focus ((first | (intro hc; have hc0 := hc; (try simp only [SPLT] at hc); (try refine And.intro (by first | exact hc0 | exact ⟨hc0, hc0⟩ | exact ⟨hc0, hc0, hc0⟩) ?_)) | skip); first | exact idx_nat (by assumption) | exact idx_some (by omega) (by assumption) | exact idx_eq (by assumption) (by omega) | exact hc0 | exact ⟨hc0, hc0⟩ | exact ⟨hc0, hc0, hc0⟩ | (simp only [Bool.and_eq_true] at hc0; simp [hc0]; done) | (simp_all; done))))
          | ((with_reducible apply LookE.go); (conv => whnf); (with_reducible apply SideD.mk); (focus ((first | (intro hc; have hc0 := hc; (try simp only [SPLT] at hc); (try refine And.intro (by first | exact hc0 | exact ⟨hc0, hc0⟩ | exact ⟨hc0, hc0, hc0⟩) ?_)) | skip); first | exact ⟨rfl, rfl⟩ | exact rfl | exact hc0 | exact ⟨hc0, hc0⟩ | exact ⟨hc0, hc0, hc0⟩ | (simp only [Bool.and_eq_true] at hc0; simp [hc0]; done) | (simp_all; done))))
          | ((with_reducible apply CallE.go); (conv => whnf); (with_reducible apply SideD.mk); (focus ((first | (intro hc; have hc0 := hc; (try simp only [SPLT] at hc); (try refine And.intro (by first | exact hc0 | exact ⟨hc0, hc0⟩ | exact ⟨hc0, hc0, hc0⟩) ?_)) | skip); first | ((try refine GivesL.mk rfl ?_); first | fail) | exact hc0 | exact ⟨hc0, hc0⟩ | exact ⟨hc0, hc0, hc0⟩ | (simp only [Bool.and_eq_true] at hc0; simp [hc0]; done) | (simp_all; done))))
          | ((with_reducible apply CallO.go); (conv => whnf); (with_reducible apply SideD.mk); (focus (first | fail)))
          | ((with_reducible apply SideD.mk); (focus ((first | (intro hc; have hc0 := hc; (try simp only [SPLT] at hc); (try refine And.intro (by first | exact hc0 | exact ⟨hc0, hc0⟩ | exact ⟨hc0, hc0, hc0⟩) ?_)) | skip); first | exact ⟨by omega, by omega⟩ | omega | exact ⟨rfl, rfl, by simp only [List.length_map, List.length_append, List.length_cons, List.length_nil]; omega⟩ | exact ⟨rfl, rfl, by simp; omega⟩ | exact ⟨rfl, rfl, by omega⟩ | exact ⟨rfl, by simp; omega⟩ | exact id | (intro h; simp [h]; done) | ((repeat (first | exact trivial | exact rfl | apply And.intro)); done) | (simp; omega) | (refine ⟨?_, ?_, ?_⟩ <;> (simp; omega)) | exact hc0 | exact ⟨hc0, hc0⟩ | exact ⟨hc0, hc0, hc0⟩ | (simp only [Bool.and_eq_true] at hc0; simp [hc0]; done) | (simp_all; done))))
          | ((with_reducible apply DrawR.go0); (focus kernel_rfl))
          | ((with_reducible apply KerB.mk); (focus kernel_rfl))
          | with_reducible apply ends_ret
          | with_reducible apply ends_norm
          | with_reducible apply Halt'.mk
          | ((with_reducible apply CondD.mk) <;> intro hb <;> (try simp only [SPLT] at hb) <;> (try first | contradiction | exact absurd hb (by assumption) | exact absurd (by assumption) hb | (exfalso; omega))))
      all_goals (try exact (false : Bool))
      repeat' ((conv => whnf); first | exact trivial | with_reducible apply And.intro | with_reducible apply endsO_ret | with_reducible apply endsO_norm | exact DLes.nil | with_reducible exact DLe.refl _ | exact DLe.any _ | with_reducible apply DLes.cons | with_reducible exact rle_refl | exact rle_bool rfl | exact rle_int rfl | exact rle_nil rfl | exact rle_sl0 rfl)
      all_goals (conv => whnf)
      exact rle_int (by rw [if_neg hno])
    · have hlt := (List.getElem?_eq_some_iff.1 hx).1
      have hxe : l[k] = x := (List.getElem?_eq_some_iff.1 hx).2
      repeat' (
        (conv => whnf)
        first
          | ((with_reducible apply NumE.go); (conv => whnf); (with_reducible apply SideD.mk); (focus ((first | (intro hc; have hc0 := hc; (try simp only [SPLT] at hc); (try refine And.intro (by first | exact hc0 | exact ⟨hc0, hc0⟩ | exact ⟨hc0, hc0, hc0⟩) ?_)) | skip); first | exact shr_one _ | exact IntWalk.i64_in _ (by omega) | exact IntWalk.u8_in _ (by omega) | exact ⟨by omega, IntWalk.i64_quo _ _ ⟨by omega, by omega, by omega⟩⟩ | exact ⟨by omega, IntWalk.rem_in _ _ (by omega)⟩ | exact IntWalk.u64_in _ (by omega) | exact IntWalk.i32_in _ (by omega) | exact rfl | exact ⟨by omega, rfl⟩ | exact hc0 | exact ⟨hc0, hc0⟩ | exact ⟨hc0, hc0, hc0⟩ | (simp only [Bool.and_eq_true] at hc0; simp [hc0]; done) | (simp_all; done))))
          | ((with_reducible apply IdxE.go); (conv => whnf); (with_reducible apply SideD.mk); (focus ((first | (intro hc; have hc0 := hc; (try simp only [SPLT] at hc); (try refine And.intro (by first | exact hc0 | exact ⟨hc0, hc0⟩ | exact ⟨hc0, hc0, hc0⟩) ?_)) | skip); first | exact idx_nat (by assumption) | exact idx_some (by omega) (by assumption) | exact idx_eq (by assumption) (by omega) | exact hc0 | exact ⟨hc0, hc0⟩ | exact ⟨hc0, hc0, hc0⟩ | (simp only [Bool.and_eq_true] at hc0; simp [hc0]; done) | (simp_all; done))))
          | ((with_reducible apply LookE.go); (conv => whnf); (with_reducible apply SideD.mk); (focus ((first | (intro hc; have hc0 := hc; (try simp only [SPLT] at hc); (try refine And.intro (by first | exact hc0 | exact ⟨hc0, hc0⟩ | exact ⟨hc0, hc0, hc0⟩) ?_)) | skip); first | exact ⟨rfl, rfl⟩ | exact rfl | exact hc0 | exact ⟨hc0, hc0⟩ | exact ⟨hc0, hc0, hc0⟩ | (simp only [Bool.and_eq_true] at hc0; simp [hc0]; done) | (simp_all; done))))
          | ((with_reducible apply CallE.go); (conv => whnf); (with_reducible apply SideD.mk); (focus ((first | (intro hc; have hc0 := hc; (try simp only [SPLT] at hc); (try refine And.intro (by first | exact hc0 | exact ⟨hc0, hc0⟩ | exact ⟨hc0, hc0, hc0⟩) ?_)) | skip); first | ((try refine GivesL.mk rfl ?_); first | fail) | exact hc0 | exact ⟨hc0, hc0⟩ | exact ⟨hc0, hc0, hc0⟩ | (simp only [Bool.and_eq_true] at hc0; simp [hc0]; done) | (simp_all; done))))
          | ((with_reducible apply CallO.go); (conv => whnf); (with_reducible apply SideD.mk); (focus (first | fail)))
          | ((with_reducible apply SideD.mk); (focus ((first | (intro hc; have hc0 := hc; (try simp only [SPLT] at hc); (try refine And.intro (by first | exact hc0 | exact ⟨hc0, hc0⟩ | exact ⟨hc0, hc0, hc0⟩) ?_)) | skip); first | exact ⟨by omega, by omega⟩ | omega | exact ⟨rfl, rfl, by simp only [List.length_map, List.length_append, List.length_cons, List.length_nil]; omega⟩ | exact ⟨rfl, rfl, by simp; omega⟩ | exact ⟨rfl, rfl, by omega⟩ | exact ⟨rfl, by simp; omega⟩ | exact id | (intro h; simp [h]; done) | ((repeat (first | exact trivial | exact rfl | apply And.intro)); done) | (simp; omega) | (refine ⟨?_, ?_, ?_⟩ <;> (simp; omega)) | exact hc0 | exact ⟨hc0, hc0⟩ | exact ⟨hc0, hc0, hc0⟩ | (simp only [Bool.and_eq_true] at hc0; simp [hc0]; done) | (simp_all; done))))
          | ((with_reducible apply DrawR.go0); (focus kernel_rfl))
          | ((with_reducible apply KerB.mk); (focus kernel_rfl))
          | with_reducible apply ends_ret
          | with_reducible apply ends_norm
          | with_reducible apply Halt'.mk
          | ((with_reducible apply CondD.mk) <;> intro hb <;> (try simp only [SPLT] at hb) <;> (try first | contradiction | exact absurd hb (by assumption) | exact absurd (by assumption) hb | (exfalso; omega))))
      all_goals (try exact (false : Bool))
      · have hax : a = x := by
          obtain ⟨k1, i1⟩ := a
          obtain ⟨k2, i2⟩ := x
          simp at hb
          simp [hb]
        subst hax
        repeat' ((conv => whnf); first | exact trivial | with_reducible apply And.intro | with_reducible apply endsO_ret | with_reducible apply endsO_norm | exact DLes.nil | with_reducible exact DLe.refl _ | exact DLe.any _ | with_reducible apply DLes.cons | with_reducible exact rle_refl | exact rle_bool rfl | exact rle_int rfl | exact rle_nil rfl | exact rle_sl0 rfl)
        all_goals (conv => whnf)
        refine rle_int ?_
        rw [if_pos (List.mem_of_getElem? hx), idx_at hx hno]
      · have hax : a ≠ x := by
          obtain ⟨k1, i1⟩ := a
          obtain ⟨k2, i2⟩ := x
          simp at hb
          simp
          grind
        refine ⟨k + 1, ⟨by omega, ?_⟩, by omega, ?_⟩
        · rw [take_at hx]
          simp [hno, hax]
        · (conv => whnf)
          refine ⟨?_, by rfl⟩
          repeat' ((conv => whnf); first | exact DLes.nil | with_reducible exact DLe.refl _ | exact DLe.any _ | with_reducible apply DLes.cons | exact DLe.refl _ | exact dle_int (by omega) | exact dle_nil rfl | exact DLe.own _ _)
theorem contains_sem (l : List Adr) (a : Adr) (hl : l.length ≤ 1000000000) : Sem Tryd.prog 55 [.sl 0 2 (l.map Adr.row), a.d] (.bool (decide (a ∈ l))) := by
  refine sem_intro (M := fun t => mem t []) hT hM Tryd.func55 inferInstance rfl rfl rfl rfl rfl rfl ?_
  repeat' (
    (conv => whnf)
    first
      | ((with_reducible apply NumE.go); (conv => whnf); (with_reducible apply SideD.mk); (focus ((first | (intro hc; have hc0 := hc; (try simp only [SPLT] at hc); (try refine And.intro (by first | exact hc0 | exact ⟨hc0, hc0⟩ | exact ⟨hc0, hc0, hc0⟩) ?_)) | skip); first | exact shr_one _ | exact IntWalk.i64_in _ (by omega) | exact IntWalk.u8_in _ (by omega) | exact ⟨by omega, IntWalk.i64_quo _ _ ⟨by omega, by omega, by omega⟩⟩ | exact ⟨by omega, IntWalk.rem_in _ _ (by omega)⟩ | exact IntWalk.u64_in _ (by omega) | exact IntWalk.i32_in _ (by omega) | exact rfl | exact ⟨by omega, rfl⟩ | exact hc0 | exact ⟨hc0, hc0⟩ | exact ⟨hc0, hc0, hc0⟩ | (simp only [Bool.and_eq_true] at hc0; simp [hc0]; done) | (simp_all; done))))
      | ((with_reducible apply IdxE.go); (conv => whnf); (with_reducible apply SideD.mk); (focus ((first | (intro hc; have hc0 := hc; (try simp only [SPLT] at hc); (try refine And.intro (by first | exact hc0 | exact ⟨hc0, hc0⟩ | exact ⟨hc0, hc0, hc0⟩) ?_)) | skip); first | exact idx_nat (by assumption) | exact idx_some (by omega) (by assumption) | exact idx_eq (by assumption) (by omega) | exact hc0 | exact ⟨hc0, hc0⟩ | exact ⟨hc0, hc0, hc0⟩ | (simp only [Bool.and_eq_true] at hc0; simp [hc0]; done) | (simp_all; done))))
      | ((with_reducible apply LookE.go); (conv => whnf); (with_reducible apply SideD.mk); (focus ((first | (intro hc; have hc0 := hc; (try simp only [SPLT] at hc); (try refine And.intro (by first | exact hc0 | exact ⟨hc0, hc0⟩ | exact ⟨hc0, hc0, hc0⟩) ?_)) | skip); first | exact ⟨rfl, rfl⟩ | exact rfl | exact hc0 | exact ⟨hc0, hc0⟩ | exact ⟨hc0, hc0, hc0⟩ | (simp only [Bool.and_eq_true] at hc0; simp [hc0]; done) | (simp_all; done))))
      | ((with_reducible apply CallE.go); (conv => whnf); (with_reducible apply SideD.mk); (focus ((first | (intro hc; have hc0 := hc; (try simp only [SPLT] at hc); (try refine And.intro (by first | exact hc0 | exact ⟨hc0, hc0⟩ | exact ⟨hc0, hc0, hc0⟩) ?_)) | skip); first | ((try refine GivesL.mk rfl ?_); first | ((apply gives_go (index_sem _ _ _)); (focus (first | exact DLes.refl _ | (repeat (first | exact DLes.nil | ((apply DLes.cons); (focus (first | exact DLe.refl _ | exact DLe.own _ _ | exact DLe.nil _ _ | exact DLe.any _))))))); (focus exact rfl); (all_goals (first | exact rfl | assumption | omega | (simp; omega) | (simp; done))))) | exact hc0 | exact ⟨hc0, hc0⟩ | exact ⟨hc0, hc0, hc0⟩ | (simp only [Bool.and_eq_true] at hc0; simp [hc0]; done) | (simp_all; done))))
      | ((with_reducible apply CallO.go); (conv => whnf); (with_reducible apply SideD.mk); (focus (first | fail)))
      | ((with_reducible apply SideD.mk); (focus ((first | (intro hc; have hc0 := hc; (try simp only [SPLT] at hc); (try refine And.intro (by first | exact hc0 | exact ⟨hc0, hc0⟩ | exact ⟨hc0, hc0, hc0⟩) ?_)) | skip); first | exact ⟨by omega, by omega⟩ | omega | exact ⟨rfl, rfl, by simp only [List.length_map, List.length_append, List.length_cons, List.length_nil]; omega⟩ | exact ⟨rfl, rfl, by simp; omega⟩ | exact ⟨rfl, rfl, by omega⟩ | exact ⟨rfl, by simp; omega⟩ | exact id | (intro h; simp [h]; done) | ((repeat (first | exact trivial | exact rfl | apply And.intro)); done) | (simp; omega) | (refine ⟨?_, ?_, ?_⟩ <;> (simp; omega)) | exact hc0 | exact ⟨hc0, hc0⟩ | exact ⟨hc0, hc0, hc0⟩ | (simp only [Bool.and_eq_true] at hc0; simp [hc0]; done) | (simp_all; done))))
      | ((with_reducible apply DrawR.go0); (focus kernel_rfl))
      | ((with_reducible apply KerB.mk); (focus kernel_rfl))
      | with_reducible apply ends_ret
      | with_reducible apply ends_norm
      | with_reducible apply Halt'.mk
      | ((with_reducible apply CondD.mk) <;> intro hb <;> (try simp only [SPLT] at hb) <;> (try first | contradiction | exact absurd hb (by assumption) | exact absurd (by assumption) hb | (exfalso; omega))))
  all_goals (try exact (false : Bool))
  repeat' ((conv => whnf); first | exact trivial | with_reducible apply And.intro | with_reducible apply endsO_ret | with_reducible apply endsO_norm | exact DLes.nil | with_reducible exact DLe.refl _ | exact DLe.any _ | with_reducible apply DLes.cons | with_reducible exact rle_refl | exact rle_bool rfl | exact rle_int rfl | exact rle_nil rfl | exact rle_sl0 rfl)
  all_goals (conv => whnf)
  refine rle_bool ?_
  by_cases h : a ∈ l <;> simp [h]
/-- What is known of partners that are looked through. -/
structure Thru (l : List Par) (R : Int) (k : Nat) : Prop where
  le : k ≤ l.length
  rest : parsN (seenAt l k) (prevAt l k) (l.drop k) = R
  few : (seenAt l k).length ≤ 10 * k
theorem nof {k : Nat} {a b : Bool} (h : (k : Int) ≤ 0 ∨ a = false ∧ ¬ b = true) : ¬ (decide (0 < (k : Int)) && (a || b)) = true := by
  simp only [Bool.and_eq_true, Bool.or_eq_true, decide_eq_true_eq]
  rintro ⟨h1, h2⟩
  rcases h with h | ⟨h3, h4⟩
  · omega
  · rcases h2 with h2 | h2
    · rw [h3] at h2; cases h2
    · exact h4 h2
theorem CheckPartners_sem (l : List Par) (hok : ∀ p ∈ l, p.Ok) : Sem Tryd.prog 18 [.sl 0 2 (l.map Par.row)] (.int .i64 (partnersN l)) := by
  refine sem_intro (M := fun t => mem t [5, 2000005]) hT hM Tryd.func18 inferInstance rfl rfl rfl rfl rfl rfl ?_
  repeat' (
    (conv => whnf)
    first
      | ((with_reducible apply NumE.go); (conv => whnf); (with_reducible apply SideD.mk); (focus ((first | (intro hc; have hc0 := hc; (try simp only [SPLT] at hc); (try refine And.intro (by first | exact hc0 | exact ⟨hc0, hc0⟩ | exact ⟨hc0, hc0, hc0⟩) ?_)) | skip); first | exact shr_one _ | exact IntWalk.i64_in _ (by omega) | exact IntWalk.u8_in _ (by omega) | exact ⟨by omega, IntWalk.i64_quo _ _ ⟨by omega, by omega, by omega⟩⟩ | exact ⟨by omega, IntWalk.rem_in _ _ (by omega)⟩ | exact IntWalk.u64_in _ (by omega) | exact IntWalk.i32_in _ (by omega) | exact rfl | exact ⟨by omega, rfl⟩ | exact hc0 | exact ⟨hc0, hc0⟩ | exact ⟨hc0, hc0, hc0⟩ | (simp only [Bool.and_eq_true] at hc0; simp [hc0]; done) | (simp_all; done))))
      | ((with_reducible apply IdxE.go); (conv => whnf); (with_reducible apply SideD.mk); (focus ((first | (intro hc; have hc0 := hc; (try simp only [SPLT] at hc); (try refine And.intro (by first | exact hc0 | exact ⟨hc0, hc0⟩ | exact ⟨hc0, hc0, hc0⟩) ?_)) | skip); first | exact idx_nat (by assumption) | exact idx_some (by omega) (by assumption) | exact idx_eq (by assumption) (by omega) | exact hc0 | exact ⟨hc0, hc0⟩ | exact ⟨hc0, hc0, hc0⟩ | (simp only [Bool.and_eq_true] at hc0; simp [hc0]; done) | (simp_all; done))))
      | ((with_reducible apply LookE.go); (conv => whnf); (with_reducible apply SideD.mk); (focus ((first | (intro hc; have hc0 := hc; (try simp only [SPLT] at hc); (try refine And.intro (by first | exact hc0 | exact ⟨hc0, hc0⟩ | exact ⟨hc0, hc0, hc0⟩) ?_)) | skip); first | exact ⟨rfl, rfl⟩ | exact rfl | exact hc0 | exact ⟨hc0, hc0⟩ | exact ⟨hc0, hc0, hc0⟩ | (simp only [Bool.and_eq_true] at hc0; simp [hc0]; done) | (simp_all; done))))
      | ((with_reducible apply CallE.go); (conv => whnf); (with_reducible apply SideD.mk); (focus ((first | (intro hc; have hc0 := hc; (try simp only [SPLT] at hc); (try refine And.intro (by first | exact hc0 | exact ⟨hc0, hc0⟩ | exact ⟨hc0, hc0, hc0⟩) ?_)) | skip); first | ((try refine GivesL.mk rfl ?_); first | ((apply gives_go (isName_sem _ _)); (focus (first | exact DLes.refl _ | (repeat (first | exact DLes.nil | ((apply DLes.cons); (focus (first | exact DLe.refl _ | exact DLe.own _ _ | exact DLe.nil _ _ | exact DLe.any _))))))); (focus exact rfl); (all_goals (first | exact rfl | assumption | omega | (simp; omega) | (simp; done)))) | ((apply gives_go (addressFault_sem _ _)); (focus (first | exact DLes.refl _ | (repeat (first | exact DLes.nil | ((apply DLes.cons); (focus (first | exact DLe.refl _ | exact DLe.own _ _ | exact DLe.nil _ _ | exact DLe.any _))))))); (focus exact rfl); (all_goals (first | exact rfl | assumption | omega | (simp; omega) | (simp; done))))) | exact hc0 | exact ⟨hc0, hc0⟩ | exact ⟨hc0, hc0, hc0⟩ | (simp only [Bool.and_eq_true] at hc0; simp [hc0]; done) | (simp_all; done))))
      | ((with_reducible apply CallO.go); (conv => whnf); (with_reducible apply SideD.mk); (focus (first | fail)))
      | ((with_reducible apply SideD.mk); (focus ((first | (intro hc; have hc0 := hc; (try simp only [SPLT] at hc); (try refine And.intro (by first | exact hc0 | exact ⟨hc0, hc0⟩ | exact ⟨hc0, hc0, hc0⟩) ?_)) | skip); first | exact ⟨by omega, by omega⟩ | omega | exact ⟨rfl, rfl, by simp only [List.length_map, List.length_append, List.length_cons, List.length_nil]; omega⟩ | exact ⟨rfl, rfl, by simp; omega⟩ | exact ⟨rfl, rfl, by omega⟩ | exact ⟨rfl, by simp; omega⟩ | exact id | (intro h; simp [h]; done) | ((repeat (first | exact trivial | exact rfl | apply And.intro)); done) | (simp; omega) | (refine ⟨?_, ?_, ?_⟩ <;> (simp; omega)) | exact hc0 | exact ⟨hc0, hc0⟩ | exact ⟨hc0, hc0, hc0⟩ | (simp only [Bool.and_eq_true] at hc0; simp [hc0]; done) | (simp_all; done))))
      | ((with_reducible apply DrawR.go0); (focus kernel_rfl))
      | ((with_reducible apply KerB.mk); (focus kernel_rfl))
      | with_reducible apply ends_ret
      | with_reducible apply ends_norm
      | with_reducible apply Halt'.mk
      | ((with_reducible apply CondD.mk) <;> intro hb <;> (try simp only [SPLT] at hb) <;> (try first | contradiction | exact absurd hb (by assumption) | exact absurd (by assumption) hb | (exfalso; omega))))
  all_goals (try exact (false : Bool))
  · repeat' ((conv => whnf); first | exact trivial | with_reducible apply And.intro | with_reducible apply endsO_ret | with_reducible apply endsO_norm | exact DLes.nil | with_reducible exact DLe.refl _ | exact DLe.any _ | with_reducible apply DLes.cons | with_reducible exact rle_refl | exact rle_bool rfl | exact rle_int rfl | exact rle_nil rfl | exact rle_sl0 rfl)
    all_goals (conv => whnf)
    exact rle_int (by rw [partnersN, if_pos (by omega)])
  · have hR : partnersN l = parsN [] none l := by rw [partnersN, if_neg (by omega)]
    refine loop_go (M := fun t => mem t [5, 2000005]) hT hM (fun k : Nat => [(15, .int .i64 k), (3, .mp (.st [1, 1]) (seenM (seenAt l k)))]) (fun k => Thru l (partnersN l) k) (fun k => l.length - k) (0) ?_ ?_ ?_
    · (conv => whnf)
      refine ⟨?_, by rfl⟩
      repeat' ((conv => whnf); first | exact DLes.nil | with_reducible exact DLe.refl _ | exact DLe.any _ | with_reducible apply DLes.cons | exact DLe.refl _ | exact dle_int (by omega) | exact dle_nil rfl | exact DLe.own _ _)
    · exact ⟨Nat.zero_le _, hR.symm, by simp [seenAt]⟩
    · rintro k ⟨hk, hrest, hfew⟩
      rcases hx : l[k]? with _ | p
      · have hk' : k = l.length := by have := List.getElem?_eq_none_iff.1 hx; omega
        subst hk'
        repeat' (
          (conv => whnf)
          first
            | ((with_reducible apply NumE.go); (conv => whnf); (with_reducible apply SideD.mk); (focus ((first | (intro hc; have hc0 := hc; (try simp only [SPLT] at hc); (try refine And.intro (by first | exact hc0 | exact ⟨hc0, hc0⟩ | exact ⟨hc0, hc0, hc0⟩) ?_)) | skip); first | exact shr_one _ | exact IntWalk.i64_in _ (by omega) | exact IntWalk.u8_in _ (by omega) | exact ⟨by omega, IntWalk.i64_quo _ _ ⟨by omega, by omega, by omega⟩⟩ | exact ⟨by omega, IntWalk.rem_in _ _ (by omega)⟩ | exact IntWalk.u64_in _ (by omega) | exact IntWalk.i32_in _ (by omega) | exact rfl | exact ⟨by omega, rfl⟩ | exact hc0 | exact ⟨hc0, hc0⟩ | exact ⟨hc0, hc0, hc0⟩ | (simp only [Bool.and_eq_true] at hc0; simp [hc0]; done) | (simp_all; done))))
            | ((with_reducible apply IdxE.go); (conv => whnf); (with_reducible apply SideD.mk); (focus ((first | (intro hc; have hc0 := hc; (try simp only [SPLT] at hc); (try refine And.intro (by first | exact hc0 | exact ⟨hc0, hc0⟩ | exact ⟨hc0, hc0, hc0⟩) ?_)) | skip); first | exact idx_nat (by assumption) | exact idx_some (by omega) (by assumption) | exact idx_eq (by assumption) (by omega) | exact hc0 | exact ⟨hc0, hc0⟩ | exact ⟨hc0, hc0, hc0⟩ | (simp only [Bool.and_eq_true] at hc0; simp [hc0]; done) | (simp_all; done))))
            | ((with_reducible apply LookE.go); (conv => whnf); (with_reducible apply SideD.mk); (focus ((first | (intro hc; have hc0 := hc; (try simp only [SPLT] at hc); (try refine And.intro (by first | exact hc0 | exact ⟨hc0, hc0⟩ | exact ⟨hc0, hc0, hc0⟩) ?_)) | skip); first | exact ⟨rfl, rfl⟩ | exact rfl | exact hc0 | exact ⟨hc0, hc0⟩ | exact ⟨hc0, hc0, hc0⟩ | (simp only [Bool.and_eq_true] at hc0; simp [hc0]; done) | (simp_all; done))))
            | ((with_reducible apply CallE.go); (conv => whnf); (with_reducible apply SideD.mk); (focus ((first | (intro hc; have hc0 := hc; (try simp only [SPLT] at hc); (try refine And.intro (by first | exact hc0 | exact ⟨hc0, hc0⟩ | exact ⟨hc0, hc0, hc0⟩) ?_)) | skip); first | ((try refine GivesL.mk rfl ?_); first | ((apply gives_go (isName_sem _ _)); (focus (first | exact DLes.refl _ | (repeat (first | exact DLes.nil | ((apply DLes.cons); (focus (first | exact DLe.refl _ | exact DLe.own _ _ | exact DLe.nil _ _ | exact DLe.any _))))))); (focus exact rfl); (all_goals (first | exact rfl | assumption | omega | (simp; omega) | (simp; done)))) | ((apply gives_go (addressFault_sem _ _)); (focus (first | exact DLes.refl _ | (repeat (first | exact DLes.nil | ((apply DLes.cons); (focus (first | exact DLe.refl _ | exact DLe.own _ _ | exact DLe.nil _ _ | exact DLe.any _))))))); (focus exact rfl); (all_goals (first | exact rfl | assumption | omega | (simp; omega) | (simp; done))))) | exact hc0 | exact ⟨hc0, hc0⟩ | exact ⟨hc0, hc0, hc0⟩ | (simp only [Bool.and_eq_true] at hc0; simp [hc0]; done) | (simp_all; done))))
            | ((with_reducible apply CallO.go); (conv => whnf); (with_reducible apply SideD.mk); (focus (first | fail)))
            | ((with_reducible apply SideD.mk); (focus ((first | (intro hc; have hc0 := hc; (try simp only [SPLT] at hc); (try refine And.intro (by first | exact hc0 | exact ⟨hc0, hc0⟩ | exact ⟨hc0, hc0, hc0⟩) ?_)) | skip); first | exact ⟨by omega, by omega⟩ | omega | exact ⟨rfl, rfl, by simp only [List.length_map, List.length_append, List.length_cons, List.length_nil]; omega⟩ | exact ⟨rfl, rfl, by simp; omega⟩ | exact ⟨rfl, rfl, by omega⟩ | exact ⟨rfl, by simp; omega⟩ | exact id | (intro h; simp [h]; done) | ((repeat (first | exact trivial | exact rfl | apply And.intro)); done) | (simp; omega) | (refine ⟨?_, ?_, ?_⟩ <;> (simp; omega)) | exact hc0 | exact ⟨hc0, hc0⟩ | exact ⟨hc0, hc0, hc0⟩ | (simp only [Bool.and_eq_true] at hc0; simp [hc0]; done) | (simp_all; done))))
            | ((with_reducible apply DrawR.go0); (focus kernel_rfl))
            | ((with_reducible apply KerB.mk); (focus kernel_rfl))
            | with_reducible apply ends_ret
            | with_reducible apply ends_norm
            | with_reducible apply Halt'.mk
            | ((with_reducible apply CondD.mk) <;> intro hb <;> (try simp only [SPLT] at hb) <;> (try first | contradiction | exact absurd hb (by assumption) | exact absurd (by assumption) hb | (exfalso; omega))))
        all_goals (try exact (false : Bool))
        repeat' ((conv => whnf); first | exact trivial | with_reducible apply And.intro | with_reducible apply endsO_ret | with_reducible apply endsO_norm | exact DLes.nil | with_reducible exact DLe.refl _ | exact DLe.any _ | with_reducible apply DLes.cons | with_reducible exact rle_refl | exact rle_bool rfl | exact rle_int rfl | exact rle_nil rfl | exact rle_sl0 rfl)
        all_goals (conv => whnf)
        refine rle_int ?_
        rw [← hrest, List.drop_length]
        rfl
      · have hlt := (List.getElem?_eq_some_iff.1 hx).1
        obtain ⟨hpn, hpa⟩ := hok p (List.mem_of_getElem? hx)
        have hat := parsN_at (seen := seenAt l k) (prev := prevAt l k) hx
        rw [hrest] at hat
        obtain ⟨q, hq⟩ : ∃ q : Par, 0 < k → l[k - 1]? = some q := ⟨l[k - 1]?.getD p, fun h => by rw [List.getElem?_eq_getElem (by omega)]; rfl⟩
        have hpv : notAfter (prevAt l k) p.name = (decide (0 < (k : Int)) && (Op.bytesLess p.name q.name || p.name == q.name)) := by
          cases k with
          | zero => rfl
          | succ j =>
            have := hq (by omega)
            simp only [Nat.add_sub_cancel] at this
            simp only [prevAt, this, Option.map_some, notAfter]
            rw [decide_eq_true (by omega), Bool.true_and]
        rw [hpv] at hat
        repeat' (
          (conv => whnf)
          first
            | ((with_reducible apply NumE.go); (conv => whnf); (with_reducible apply SideD.mk); (focus ((first | (intro hc; have hc0 := hc; (try simp only [SPLT] at hc); (try refine And.intro (by first | exact hc0 | exact ⟨hc0, hc0⟩ | exact ⟨hc0, hc0, hc0⟩) ?_)) | skip); first | exact shr_one _ | exact IntWalk.i64_in _ (by omega) | exact IntWalk.u8_in _ (by omega) | exact ⟨by omega, IntWalk.i64_quo _ _ ⟨by omega, by omega, by omega⟩⟩ | exact ⟨by omega, IntWalk.rem_in _ _ (by omega)⟩ | exact IntWalk.u64_in _ (by omega) | exact IntWalk.i32_in _ (by omega) | exact rfl | exact ⟨by omega, rfl⟩ | exact hc0 | exact ⟨hc0, hc0⟩ | exact ⟨hc0, hc0, hc0⟩ | (simp only [Bool.and_eq_true] at hc0; simp [hc0]; done) | (simp_all; done))))
            | ((with_reducible apply IdxE.go); (conv => whnf); (with_reducible apply SideD.mk); (focus ((first | (intro hc; have hc0 := hc; (try simp only [SPLT] at hc); (try refine And.intro (by first | exact hc0 | exact ⟨hc0, hc0⟩ | exact ⟨hc0, hc0, hc0⟩) ?_)) | skip); first | exact idx_nat (by assumption) | exact idx_some (by omega) (by assumption) | exact idx_eq (by assumption) (by omega) | exact idx_eq (hq (by omega)) (by omega) | exact hc0 | exact ⟨hc0, hc0⟩ | exact ⟨hc0, hc0, hc0⟩ | (simp only [Bool.and_eq_true] at hc0; simp [hc0]; done) | (simp_all; done))))
            | ((with_reducible apply LookE.go); (conv => whnf); (with_reducible apply SideD.mk); (focus ((first | (intro hc; have hc0 := hc; (try simp only [SPLT] at hc); (try refine And.intro (by first | exact hc0 | exact ⟨hc0, hc0⟩ | exact ⟨hc0, hc0, hc0⟩) ?_)) | skip); first | (exact idx_eq (hq (by omega)) (by omega)) | exact ⟨rfl, rfl⟩ | exact rfl | exact hc0 | exact ⟨hc0, hc0⟩ | exact ⟨hc0, hc0, hc0⟩ | (simp only [Bool.and_eq_true] at hc0; simp [hc0]; done) | (simp_all; done))))
            | ((with_reducible apply CallE.go); (conv => whnf); (with_reducible apply SideD.mk); (focus ((first | (intro hc; have hc0 := hc; (try simp only [SPLT] at hc); (try refine And.intro (by first | exact hc0 | exact ⟨hc0, hc0⟩ | exact ⟨hc0, hc0, hc0⟩) ?_)) | skip); first | ((try refine GivesL.mk rfl ?_); first | ((apply gives_go (isName_sem _ _)); (focus (first | exact DLes.refl _ | (repeat (first | exact DLes.nil | ((apply DLes.cons); (focus (first | exact DLe.refl _ | exact DLe.own _ _ | exact DLe.nil _ _ | exact DLe.any _))))))); (focus exact rfl); (all_goals (first | exact rfl | assumption | omega | (simp; omega) | (simp; done)))) | ((apply gives_go (addressFault_sem _ _)); (focus (first | exact DLes.refl _ | (repeat (first | exact DLes.nil | ((apply DLes.cons); (focus (first | exact DLe.refl _ | exact DLe.own _ _ | exact DLe.nil _ _ | exact DLe.any _))))))); (focus exact rfl); (all_goals (first | exact rfl | assumption | omega | (simp; omega) | (simp; done))))) | exact hc0 | exact ⟨hc0, hc0⟩ | exact ⟨hc0, hc0, hc0⟩ | (simp only [Bool.and_eq_true] at hc0; simp [hc0]; done) | (simp_all; done))))
            | ((with_reducible apply CallO.go); (conv => whnf); (with_reducible apply SideD.mk); (focus (first | fail)))
            | ((with_reducible apply SideD.mk); (focus ((first | (intro hc; have hc0 := hc; (try simp only [SPLT] at hc); (try refine And.intro (by first | exact hc0 | exact ⟨hc0, hc0⟩ | exact ⟨hc0, hc0, hc0⟩) ?_)) | skip); first | exact ⟨by omega, by omega⟩ | omega | exact ⟨rfl, rfl, by simp only [List.length_map, List.length_append, List.length_cons, List.length_nil]; omega⟩ | exact ⟨rfl, rfl, by simp; omega⟩ | exact ⟨rfl, rfl, by omega⟩ | exact ⟨rfl, by simp; omega⟩ | exact id | (intro h; simp [h]; done) | ((repeat (first | exact trivial | exact rfl | apply And.intro)); done) | (simp; omega) | (refine ⟨?_, ?_, ?_⟩ <;> (simp; omega)) | exact hc0 | exact ⟨hc0, hc0⟩ | exact ⟨hc0, hc0, hc0⟩ | (simp only [Bool.and_eq_true] at hc0; simp [hc0]; done) | (simp_all; done))))
            | ((with_reducible apply DrawR.go0); (focus kernel_rfl))
            | ((with_reducible apply KerB.mk); (focus kernel_rfl))
            | with_reducible apply ends_ret
            | with_reducible apply ends_norm
            | with_reducible apply Halt'.mk
            | ((with_reducible apply CondD.mk) <;> intro hb <;> (try simp only [SPLT] at hb) <;> (try first | contradiction | exact absurd hb (by assumption) | exact absurd (by assumption) hb | (exfalso; omega))))
        all_goals (try exact (false : Bool))
        · repeat' ((conv => whnf); first | exact trivial | with_reducible apply And.intro | with_reducible apply endsO_ret | with_reducible apply endsO_norm | exact DLes.nil | with_reducible exact DLe.refl _ | exact DLe.any _ | with_reducible apply DLes.cons | with_reducible exact rle_refl | exact rle_bool rfl | exact rle_int rfl | exact rle_nil rfl | exact rle_sl0 rfl)
          all_goals (conv => whnf)
          refine rle_int ?_
          rw [hat, if_pos hb]
        · rename_i hn
          repeat' ((conv => whnf); first | exact trivial | with_reducible apply And.intro | with_reducible apply endsO_ret | with_reducible apply endsO_norm | exact DLes.nil | with_reducible exact DLe.refl _ | exact DLe.any _ | with_reducible apply DLes.cons | with_reducible exact rle_refl | exact rle_bool rfl | exact rle_int rfl | exact rle_nil rfl | exact rle_sl0 rfl)
          all_goals (conv => whnf)
          refine rle_int ?_
          rw [hat, if_neg (by simp [hn]), if_pos (by simpa using hb)]
        · rename_i hn hc
          repeat' ((conv => whnf); first | exact trivial | with_reducible apply And.intro | with_reducible apply endsO_ret | with_reducible apply endsO_norm | exact DLes.nil | with_reducible exact DLe.refl _ | exact DLe.any _ | with_reducible apply DLes.cons | with_reducible exact rle_refl | exact rle_bool rfl | exact rle_int rfl | exact rle_nil rfl | exact rle_sl0 rfl)
          all_goals (conv => whnf)
          refine rle_int ?_
          rw [hat, if_neg (by simp [hn]), if_neg (nof (by simpa using hc)), if_pos (by omega)]
        · rename_i hn hc
          rw [if_neg (by simp [hn]), if_neg (nof (by simpa using hc)), if_neg (by omega)] at hat
          refine loop_go (M := fun t => mem t [7, 2000007]) hT hM (fun j : Nat => [(47, .int .i64 j), (3, .mp (.st [1, 1]) (seenM (seenAt l k ++ p.addrs.take j)))]) (fun j => j ≤ p.addrs.length ∧ adrsN (seenAt l k ++ p.addrs.take j) (p.addrs.drop j) = adrsN (seenAt l k) p.addrs) (fun j => p.addrs.length - j) (0) ?_ ?_ ?_
          · (conv => whnf)
            refine ⟨?_, by rfl⟩
            repeat' ((conv => whnf); first | exact DLes.nil | with_reducible exact DLe.refl _ | exact DLe.any _ | with_reducible apply DLes.cons | exact DLe.refl _ | exact dle_int (by omega) | exact dle_nil rfl | exact DLe.own _ _ | (exact DLe.of_eq (by simp)))
          · exact ⟨Nat.zero_le _, by simp⟩
          · rintro j ⟨hj, hjr⟩
            rcases hy : p.addrs[j]? with _ | a
            · have hj' : j = p.addrs.length := by have := List.getElem?_eq_none_iff.1 hy; omega
              subst hj'
              rw [List.drop_length] at hjr
              have hz : adrsN (seenAt l k) p.addrs = 0 := hjr.symm
              rw [if_neg (by omega)] at hat
              repeat' (
                (conv => whnf)
                first
                  | ((with_reducible apply NumE.go); (conv => whnf); (with_reducible apply SideD.mk); (focus ((first | (intro hc; have hc0 := hc; (try simp only [SPLT] at hc); (try refine And.intro (by first | exact hc0 | exact ⟨hc0, hc0⟩ | exact ⟨hc0, hc0, hc0⟩) ?_)) | skip); first | exact shr_one _ | exact IntWalk.i64_in _ (by omega) | exact IntWalk.u8_in _ (by omega) | exact ⟨by omega, IntWalk.i64_quo _ _ ⟨by omega, by omega, by omega⟩⟩ | exact ⟨by omega, IntWalk.rem_in _ _ (by omega)⟩ | exact IntWalk.u64_in _ (by omega) | exact IntWalk.i32_in _ (by omega) | exact rfl | exact ⟨by omega, rfl⟩ | exact hc0 | exact ⟨hc0, hc0⟩ | exact ⟨hc0, hc0, hc0⟩ | (simp only [Bool.and_eq_true] at hc0; simp [hc0]; done) | (simp_all; done))))
                  | ((with_reducible apply IdxE.go); (conv => whnf); (with_reducible apply SideD.mk); (focus ((first | (intro hc; have hc0 := hc; (try simp only [SPLT] at hc); (try refine And.intro (by first | exact hc0 | exact ⟨hc0, hc0⟩ | exact ⟨hc0, hc0, hc0⟩) ?_)) | skip); first | exact idx_nat (by assumption) | exact idx_some (by omega) (by assumption) | exact idx_eq (by assumption) (by omega) | exact hc0 | exact ⟨hc0, hc0⟩ | exact ⟨hc0, hc0, hc0⟩ | (simp only [Bool.and_eq_true] at hc0; simp [hc0]; done) | (simp_all; done))))
                  | ((with_reducible apply LookE.go); (conv => whnf); (with_reducible apply SideD.mk); (focus ((first | (intro hc; have hc0 := hc; (try simp only [SPLT] at hc); (try refine And.intro (by first | exact hc0 | exact ⟨hc0, hc0⟩ | exact ⟨hc0, hc0, hc0⟩) ?_)) | skip); first | exact ⟨rfl, rfl⟩ | exact rfl | exact hc0 | exact ⟨hc0, hc0⟩ | exact ⟨hc0, hc0, hc0⟩ | (simp only [Bool.and_eq_true] at hc0; simp [hc0]; done) | (simp_all; done))))
                  | ((with_reducible apply CallE.go); (conv => whnf); (with_reducible apply SideD.mk); (focus ((first | (intro hc; have hc0 := hc; (try simp only [SPLT] at hc); (try refine And.intro (by first | exact hc0 | exact ⟨hc0, hc0⟩ | exact ⟨hc0, hc0, hc0⟩) ?_)) | skip); first | ((try refine GivesL.mk rfl ?_); first | ((apply gives_go (isName_sem _ _)); (focus (first | exact DLes.refl _ | (repeat (first | exact DLes.nil | ((apply DLes.cons); (focus (first | exact DLe.refl _ | exact DLe.own _ _ | exact DLe.nil _ _ | exact DLe.any _))))))); (focus exact rfl); (all_goals (first | exact rfl | assumption | omega | (simp; omega) | (simp; done)))) | ((apply gives_go (addressFault_sem _ _)); (focus (first | exact DLes.refl _ | (repeat (first | exact DLes.nil | ((apply DLes.cons); (focus (first | exact DLe.refl _ | exact DLe.own _ _ | exact DLe.nil _ _ | exact DLe.any _))))))); (focus exact rfl); (all_goals (first | exact rfl | assumption | omega | (simp; omega) | (simp; done))))) | exact hc0 | exact ⟨hc0, hc0⟩ | exact ⟨hc0, hc0, hc0⟩ | (simp only [Bool.and_eq_true] at hc0; simp [hc0]; done) | (simp_all; done))))
                  | ((with_reducible apply CallO.go); (conv => whnf); (with_reducible apply SideD.mk); (focus (first | fail)))
                  | ((with_reducible apply SideD.mk); (focus ((first | (intro hc; have hc0 := hc; (try simp only [SPLT] at hc); (try refine And.intro (by first | exact hc0 | exact ⟨hc0, hc0⟩ | exact ⟨hc0, hc0, hc0⟩) ?_)) | skip); first | exact ⟨by omega, by omega⟩ | omega | exact ⟨rfl, rfl, by simp only [List.length_map, List.length_append, List.length_cons, List.length_nil]; omega⟩ | exact ⟨rfl, rfl, by simp; omega⟩ | exact ⟨rfl, rfl, by omega⟩ | exact ⟨rfl, by simp; omega⟩ | exact id | (intro h; simp [h]; done) | ((repeat (first | exact trivial | exact rfl | apply And.intro)); done) | (simp; omega) | (refine ⟨?_, ?_, ?_⟩ <;> (simp; omega)) | exact hc0 | exact ⟨hc0, hc0⟩ | exact ⟨hc0, hc0, hc0⟩ | (simp only [Bool.and_eq_true] at hc0; simp [hc0]; done) | (simp_all; done))))
                  | ((with_reducible apply DrawR.go0); (focus kernel_rfl))
                  | ((with_reducible apply KerB.mk); (focus kernel_rfl))
                  | with_reducible apply ends_ret
                  | with_reducible apply ends_norm
                  | with_reducible apply Halt'.mk
                  | ((with_reducible apply CondD.mk) <;> intro hb <;> (try simp only [SPLT] at hb) <;> (try first | contradiction | exact absurd hb (by assumption) | exact absurd (by assumption) hb | (exfalso; omega))))
              all_goals (try exact (false : Bool))
              refine ⟨k + 1, ⟨by omega, ?_, ?_⟩, by omega, ?_⟩
              · rw [seenAt_next hx, hat]
                simp [prevAt, hx]
              · rw [seenAt_next hx, List.length_append]
                omega
              · (conv => whnf)
                refine ⟨?_, by rfl⟩
                repeat' ((conv => whnf); first | exact DLes.nil | with_reducible exact DLe.refl _ | exact DLe.any _ | with_reducible apply DLes.cons | exact DLe.refl _ | exact dle_int (by omega) | exact dle_nil rfl | exact DLe.own _ _ | (exact DLe.of_eq (by rw [seenAt_next hx, List.take_length])))
            · have hjlt := (List.getElem?_eq_some_iff.1 hy).1
              have hya := hpa a (List.mem_of_getElem? hy)
              have haj := adrsN_at (seen := seenAt l k ++ p.addrs.take j) hy
              rw [hjr] at haj
              repeat' (
                (conv => whnf)
                first
                  | ((with_reducible apply NumE.go); (conv => whnf); (with_reducible apply SideD.mk); (focus ((first | (intro hc; have hc0 := hc; (try simp only [SPLT] at hc); (try refine And.intro (by first | exact hc0 | exact ⟨hc0, hc0⟩ | exact ⟨hc0, hc0, hc0⟩) ?_)) | skip); first | exact shr_one _ | exact IntWalk.i64_in _ (by omega) | exact IntWalk.u8_in _ (by omega) | exact ⟨by omega, IntWalk.i64_quo _ _ ⟨by omega, by omega, by omega⟩⟩ | exact ⟨by omega, IntWalk.rem_in _ _ (by omega)⟩ | exact IntWalk.u64_in _ (by omega) | exact IntWalk.i32_in _ (by omega) | exact rfl | exact ⟨by omega, rfl⟩ | exact hc0 | exact ⟨hc0, hc0⟩ | exact ⟨hc0, hc0, hc0⟩ | (simp only [Bool.and_eq_true] at hc0; simp [hc0]; done) | (simp_all; done))))
                  | ((with_reducible apply IdxE.go); (conv => whnf); (with_reducible apply SideD.mk); (focus ((first | (intro hc; have hc0 := hc; (try simp only [SPLT] at hc); (try refine And.intro (by first | exact hc0 | exact ⟨hc0, hc0⟩ | exact ⟨hc0, hc0, hc0⟩) ?_)) | skip); first | exact idx_nat (by assumption) | exact idx_some (by omega) (by assumption) | exact idx_eq (by assumption) (by omega) | exact look_seen a _ | exact hc0 | exact ⟨hc0, hc0⟩ | exact ⟨hc0, hc0, hc0⟩ | (simp only [Bool.and_eq_true] at hc0; simp [hc0]; done) | (simp_all; done))))
                  | ((with_reducible apply LookE.go); (conv => whnf); (with_reducible apply SideD.mk); (focus ((first | (intro hc; have hc0 := hc; (try simp only [SPLT] at hc); (try refine And.intro (by first | exact hc0 | exact ⟨hc0, hc0⟩ | exact ⟨hc0, hc0, hc0⟩) ?_)) | skip); first | (exact look_seen a _) | exact ⟨rfl, rfl⟩ | exact rfl | exact hc0 | exact ⟨hc0, hc0⟩ | exact ⟨hc0, hc0, hc0⟩ | (simp only [Bool.and_eq_true] at hc0; simp [hc0]; done) | (simp_all; done))))
                  | ((with_reducible apply CallE.go); (conv => whnf); (with_reducible apply SideD.mk); (focus ((first | (intro hc; have hc0 := hc; (try simp only [SPLT] at hc); (try refine And.intro (by first | exact hc0 | exact ⟨hc0, hc0⟩ | exact ⟨hc0, hc0, hc0⟩) ?_)) | skip); first | ((try refine GivesL.mk rfl ?_); first | ((apply gives_go (isName_sem _ _)); (focus (first | exact DLes.refl _ | (repeat (first | exact DLes.nil | ((apply DLes.cons); (focus (first | exact DLe.refl _ | exact DLe.own _ _ | exact DLe.nil _ _ | exact DLe.any _))))))); (focus exact rfl); (all_goals (first | exact rfl | assumption | omega | (simp; omega) | (simp; done)))) | ((apply gives_go (addressFault_sem _ _)); (focus (first | exact DLes.refl _ | (repeat (first | exact DLes.nil | ((apply DLes.cons); (focus (first | exact DLe.refl _ | exact DLe.own _ _ | exact DLe.nil _ _ | exact DLe.any _))))))); (focus exact rfl); (all_goals (first | exact rfl | assumption | omega | (simp; omega) | (simp; done))))) | exact hc0 | exact ⟨hc0, hc0⟩ | exact ⟨hc0, hc0, hc0⟩ | (simp only [Bool.and_eq_true] at hc0; simp [hc0]; done) | (simp_all; done))))
                  | ((with_reducible apply CallO.go); (conv => whnf); (with_reducible apply SideD.mk); (focus (first | fail)))
                  | ((with_reducible apply SideD.mk); (focus ((first | (intro hc; have hc0 := hc; (try simp only [SPLT] at hc); (try refine And.intro (by first | exact hc0 | exact ⟨hc0, hc0⟩ | exact ⟨hc0, hc0, hc0⟩) ?_)) | skip); first | exact ⟨by omega, by omega⟩ | omega | exact ⟨rfl, rfl, by simp only [List.length_map, List.length_append, List.length_cons, List.length_nil]; omega⟩ | exact ⟨rfl, rfl, by simp; omega⟩ | exact ⟨rfl, rfl, by omega⟩ | exact ⟨rfl, by simp; omega⟩ | exact id | (intro h; simp [h]; done) | ((repeat (first | exact trivial | exact rfl | apply And.intro)); done) | (simp; omega) | (refine ⟨?_, ?_, ?_⟩ <;> (simp; omega)) | exact hc0 | exact ⟨hc0, hc0⟩ | exact ⟨hc0, hc0, hc0⟩ | (simp only [Bool.and_eq_true] at hc0; simp [hc0]; done) | (simp_all; done))))
                  | ((with_reducible apply DrawR.go0); (focus kernel_rfl))
                  | ((with_reducible apply KerB.mk); (focus kernel_rfl))
                  | with_reducible apply ends_ret
                  | with_reducible apply ends_norm
                  | with_reducible apply Halt'.mk
                  | ((with_reducible apply CondD.mk) <;> intro hb <;> (try simp only [SPLT] at hb) <;> (try first | contradiction | exact absurd hb (by assumption) | exact absurd (by assumption) hb | (exfalso; omega))))
              all_goals (try exact (false : Bool))
              · repeat' ((conv => whnf); first | exact trivial | with_reducible apply And.intro | with_reducible apply endsO_ret | with_reducible apply endsO_norm | exact DLes.nil | with_reducible exact DLe.refl _ | exact DLe.any _ | with_reducible apply DLes.cons | with_reducible exact rle_refl | exact rle_bool rfl | exact rle_int rfl | exact rle_nil rfl | exact rle_sl0 rfl)
                all_goals (conv => whnf)
                refine rle_int ?_
                rw [if_pos hb] at haj
                rw [hat, haj, if_pos hb]
              · rename_i hf
                repeat' ((conv => whnf); first | exact trivial | with_reducible apply And.intro | with_reducible apply endsO_ret | with_reducible apply endsO_norm | exact DLes.nil | with_reducible exact DLe.refl _ | exact DLe.any _ | with_reducible apply DLes.cons | with_reducible exact rle_refl | exact rle_bool rfl | exact rle_int rfl | exact rle_nil rfl | exact rle_sl0 rfl)
                all_goals (conv => whnf)
                refine rle_int ?_
                rw [if_neg (by omega), if_pos hb] at haj
                rw [hat, haj, if_pos (by decide)]
              · rename_i hf
                rw [if_neg (by omega), if_neg hb] at haj
                have hput := put_seen a hb
                refine ⟨j + 1, ⟨by omega, ?_⟩, by omega, ?_⟩
                · rw [take_at hy, ← List.append_assoc]
                  exact haj.symm
                · (conv => whnf)
                  refine ⟨?_, by rfl⟩
                  repeat' ((conv => whnf); first | exact DLes.nil | with_reducible exact DLe.refl _ | exact DLe.any _ | with_reducible apply DLes.cons | exact DLe.refl _ | exact dle_int (by omega) | exact dle_nil rfl | exact DLe.own _ _ | (exact DLe.of_eq (by rw [take_at hy, ← List.append_assoc, ← hput])))
theorem CheckPartners8_sem (l : List Par) (hok : ∀ p ∈ l, p.Ok) : Sem Tryd.prog 19 [.sl 0 2 (l.map Par.row)] (.int .i64 (partnersN l)) := by
  refine sem_intro (M := fun t => mem t [5, 2000005]) hT hM Tryd.func19 inferInstance rfl rfl rfl rfl rfl rfl ?_
  repeat' (
    (conv => whnf)
    first
      | ((with_reducible apply NumE.go); (conv => whnf); (with_reducible apply SideD.mk); (focus ((first | (intro hc; have hc0 := hc; (try simp only [SPLT] at hc); (try refine And.intro (by first | exact hc0 | exact ⟨hc0, hc0⟩ | exact ⟨hc0, hc0, hc0⟩) ?_)) | skip); first | exact shr_one _ | exact IntWalk.i64_in _ (by omega) | exact IntWalk.u8_in _ (by omega) | exact ⟨by omega, IntWalk.i64_quo _ _ ⟨by omega, by omega, by omega⟩⟩ | exact ⟨by omega, IntWalk.rem_in _ _ (by omega)⟩ | exact IntWalk.u64_in _ (by omega) | exact IntWalk.i32_in _ (by omega) | exact rfl | exact ⟨by omega, rfl⟩ | exact hc0 | exact ⟨hc0, hc0⟩ | exact ⟨hc0, hc0, hc0⟩ | (simp only [Bool.and_eq_true] at hc0; simp [hc0]; done) | (simp_all; done))))
      | ((with_reducible apply IdxE.go); (conv => whnf); (with_reducible apply SideD.mk); (focus ((first | (intro hc; have hc0 := hc; (try simp only [SPLT] at hc); (try refine And.intro (by first | exact hc0 | exact ⟨hc0, hc0⟩ | exact ⟨hc0, hc0, hc0⟩) ?_)) | skip); first | exact idx_nat (by assumption) | exact idx_some (by omega) (by assumption) | exact idx_eq (by assumption) (by omega) | exact hc0 | exact ⟨hc0, hc0⟩ | exact ⟨hc0, hc0, hc0⟩ | (simp only [Bool.and_eq_true] at hc0; simp [hc0]; done) | (simp_all; done))))
      | ((with_reducible apply LookE.go); (conv => whnf); (with_reducible apply SideD.mk); (focus ((first | (intro hc; have hc0 := hc; (try simp only [SPLT] at hc); (try refine And.intro (by first | exact hc0 | exact ⟨hc0, hc0⟩ | exact ⟨hc0, hc0, hc0⟩) ?_)) | skip); first | exact ⟨rfl, rfl⟩ | exact rfl | exact hc0 | exact ⟨hc0, hc0⟩ | exact ⟨hc0, hc0, hc0⟩ | (simp only [Bool.and_eq_true] at hc0; simp [hc0]; done) | (simp_all; done))))
      | ((with_reducible apply CallE.go); (conv => whnf); (with_reducible apply SideD.mk); (focus ((first | (intro hc; have hc0 := hc; (try simp only [SPLT] at hc); (try refine And.intro (by first | exact hc0 | exact ⟨hc0, hc0⟩ | exact ⟨hc0, hc0, hc0⟩) ?_)) | skip); first | ((try refine GivesL.mk rfl ?_); first | ((apply gives_go (isName18_sem _ _)); (focus (first | exact DLes.refl _ | (repeat (first | exact DLes.nil | ((apply DLes.cons); (focus (first | exact DLe.refl _ | exact DLe.own _ _ | exact DLe.nil _ _ | exact DLe.any _))))))); (focus exact rfl); (all_goals (first | exact rfl | assumption | omega | (simp; omega) | (simp; done)))) | ((apply gives_go (checkAddress_sem _ _)); (focus (first | exact DLes.refl _ | (repeat (first | exact DLes.nil | ((apply DLes.cons); (focus (first | exact DLe.refl _ | exact DLe.own _ _ | exact DLe.nil _ _ | exact DLe.any _))))))); (focus exact rfl); (all_goals (first | exact rfl | assumption | omega | (simp; omega) | (simp; done)))) | ((apply gives_go (contains_sem _ _ _)); (focus (first | exact DLes.refl _ | (repeat (first | exact DLes.nil | ((apply DLes.cons); (focus (first | exact DLe.refl _ | exact DLe.own _ _ | exact DLe.nil _ _ | exact DLe.any _))))))); (focus exact rfl); (all_goals (first | exact rfl | assumption | omega | (simp; omega) | (simp; done))))) | exact hc0 | exact ⟨hc0, hc0⟩ | exact ⟨hc0, hc0, hc0⟩ | (simp only [Bool.and_eq_true] at hc0; simp [hc0]; done) | (simp_all; done))))
      | ((with_reducible apply CallO.go); (conv => whnf); (with_reducible apply SideD.mk); (focus (first | fail)))
      | ((with_reducible apply SideD.mk); (focus ((first | (intro hc; have hc0 := hc; (try simp only [SPLT] at hc); (try refine And.intro (by first | exact hc0 | exact ⟨hc0, hc0⟩ | exact ⟨hc0, hc0, hc0⟩) ?_)) | skip); first | exact ⟨by omega, by omega⟩ | omega | exact ⟨rfl, rfl, by simp only [List.length_map, List.length_append, List.length_cons, List.length_nil]; omega⟩ | exact ⟨rfl, rfl, by simp; omega⟩ | exact ⟨rfl, rfl, by omega⟩ | exact ⟨rfl, by simp; omega⟩ | exact id | (intro h; simp [h]; done) | ((repeat (first | exact trivial | exact rfl | apply And.intro)); done) | (simp; omega) | (refine ⟨?_, ?_, ?_⟩ <;> (simp; omega)) | exact hc0 | exact ⟨hc0, hc0⟩ | exact ⟨hc0, hc0, hc0⟩ | (simp only [Bool.and_eq_true] at hc0; simp [hc0]; done) | (simp_all; done))))
      | ((with_reducible apply DrawR.go0); (focus kernel_rfl))
      | ((with_reducible apply KerB.mk); (focus kernel_rfl))
      | with_reducible apply ends_ret
      | with_reducible apply ends_norm
      | with_reducible apply Halt'.mk
      | ((with_reducible apply CondD.mk) <;> intro hb <;> (try simp only [SPLT] at hb) <;> (try first | contradiction | exact absurd hb (by assumption) | exact absurd (by assumption) hb | (exfalso; omega))))
  all_goals (try exact (false : Bool))
  · repeat' ((conv => whnf); first | exact trivial | with_reducible apply And.intro | with_reducible apply endsO_ret | with_reducible apply endsO_norm | exact DLes.nil | with_reducible exact DLe.refl _ | exact DLe.any _ | with_reducible apply DLes.cons | with_reducible exact rle_refl | exact rle_bool rfl | exact rle_int rfl | exact rle_nil rfl | exact rle_sl0 rfl)
    all_goals (conv => whnf)
    exact rle_int (by rw [partnersN, if_pos (by omega)])
  · have hR : partnersN l = parsN [] none l := by rw [partnersN, if_neg (by omega)]
    refine loop_go (M := fun t => mem t [5, 2000005]) hT hM (fun k : Nat => [(14, .int .i64 k), (3, .sl 1 2 ((seenAt l k).map Adr.row))]) (fun k => Thru l (partnersN l) k) (fun k => l.length - k) (0) ?_ ?_ ?_
    · (conv => whnf)
      refine ⟨?_, by rfl⟩
      repeat' ((conv => whnf); first | exact DLes.nil | with_reducible exact DLe.refl _ | exact DLe.any _ | with_reducible apply DLes.cons | exact DLe.refl _ | exact dle_int (by omega) | exact dle_nil rfl | exact DLe.own _ _ | (exact dle_nil rfl))
    · exact ⟨Nat.zero_le _, hR.symm, by simp [seenAt]⟩
    · rintro k ⟨hk, hrest, hfew⟩
      rcases hx : l[k]? with _ | p
      · have hk' : k = l.length := by have := List.getElem?_eq_none_iff.1 hx; omega
        subst hk'
        repeat' (
          (conv => whnf)
          first
            | ((with_reducible apply NumE.go); (conv => whnf); (with_reducible apply SideD.mk); (focus ((first | (intro hc; have hc0 := hc; (try simp only [SPLT] at hc); (try refine And.intro (by first | exact hc0 | exact ⟨hc0, hc0⟩ | exact ⟨hc0, hc0, hc0⟩) ?_)) | skip); first | exact shr_one _ | exact IntWalk.i64_in _ (by omega) | exact IntWalk.u8_in _ (by omega) | exact ⟨by omega, IntWalk.i64_quo _ _ ⟨by omega, by omega, by omega⟩⟩ | exact ⟨by omega, IntWalk.rem_in _ _ (by omega)⟩ | exact IntWalk.u64_in _ (by omega) | exact IntWalk.i32_in _ (by omega) | exact rfl | exact ⟨by omega, rfl⟩ | exact hc0 | exact ⟨hc0, hc0⟩ | exact ⟨hc0, hc0, hc0⟩ | (simp only [Bool.and_eq_true] at hc0; simp [hc0]; done) | (simp_all; done))))
            | ((with_reducible apply IdxE.go); (conv => whnf); (with_reducible apply SideD.mk); (focus ((first | (intro hc; have hc0 := hc; (try simp only [SPLT] at hc); (try refine And.intro (by first | exact hc0 | exact ⟨hc0, hc0⟩ | exact ⟨hc0, hc0, hc0⟩) ?_)) | skip); first | exact idx_nat (by assumption) | exact idx_some (by omega) (by assumption) | exact idx_eq (by assumption) (by omega) | exact hc0 | exact ⟨hc0, hc0⟩ | exact ⟨hc0, hc0, hc0⟩ | (simp only [Bool.and_eq_true] at hc0; simp [hc0]; done) | (simp_all; done))))
            | ((with_reducible apply LookE.go); (conv => whnf); (with_reducible apply SideD.mk); (focus ((first | (intro hc; have hc0 := hc; (try simp only [SPLT] at hc); (try refine And.intro (by first | exact hc0 | exact ⟨hc0, hc0⟩ | exact ⟨hc0, hc0, hc0⟩) ?_)) | skip); first | exact ⟨rfl, rfl⟩ | exact rfl | exact hc0 | exact ⟨hc0, hc0⟩ | exact ⟨hc0, hc0, hc0⟩ | (simp only [Bool.and_eq_true] at hc0; simp [hc0]; done) | (simp_all; done))))
            | ((with_reducible apply CallE.go); (conv => whnf); (with_reducible apply SideD.mk); (focus ((first | (intro hc; have hc0 := hc; (try simp only [SPLT] at hc); (try refine And.intro (by first | exact hc0 | exact ⟨hc0, hc0⟩ | exact ⟨hc0, hc0, hc0⟩) ?_)) | skip); first | ((try refine GivesL.mk rfl ?_); first | ((apply gives_go (isName18_sem _ _)); (focus (first | exact DLes.refl _ | (repeat (first | exact DLes.nil | ((apply DLes.cons); (focus (first | exact DLe.refl _ | exact DLe.own _ _ | exact DLe.nil _ _ | exact DLe.any _))))))); (focus exact rfl); (all_goals (first | exact rfl | assumption | omega | (simp; omega) | (simp; done)))) | ((apply gives_go (checkAddress_sem _ _)); (focus (first | exact DLes.refl _ | (repeat (first | exact DLes.nil | ((apply DLes.cons); (focus (first | exact DLe.refl _ | exact DLe.own _ _ | exact DLe.nil _ _ | exact DLe.any _))))))); (focus exact rfl); (all_goals (first | exact rfl | assumption | omega | (simp; omega) | (simp; done)))) | ((apply gives_go (contains_sem _ _ _)); (focus (first | exact DLes.refl _ | (repeat (first | exact DLes.nil | ((apply DLes.cons); (focus (first | exact DLe.refl _ | exact DLe.own _ _ | exact DLe.nil _ _ | exact DLe.any _))))))); (focus exact rfl); (all_goals (first | exact rfl | assumption | omega | (simp; omega) | (simp; done))))) | exact hc0 | exact ⟨hc0, hc0⟩ | exact ⟨hc0, hc0, hc0⟩ | (simp only [Bool.and_eq_true] at hc0; simp [hc0]; done) | (simp_all; done))))
            | ((with_reducible apply CallO.go); (conv => whnf); (with_reducible apply SideD.mk); (focus (first | fail)))
            | ((with_reducible apply SideD.mk); (focus ((first | (intro hc; have hc0 := hc; (try simp only [SPLT] at hc); (try refine And.intro (by first | exact hc0 | exact ⟨hc0, hc0⟩ | exact ⟨hc0, hc0, hc0⟩) ?_)) | skip); first | exact ⟨by omega, by omega⟩ | omega | exact ⟨rfl, rfl, by simp only [List.length_map, List.length_append, List.length_cons, List.length_nil]; omega⟩ | exact ⟨rfl, rfl, by simp; omega⟩ | exact ⟨rfl, rfl, by omega⟩ | exact ⟨rfl, by simp; omega⟩ | exact id | (intro h; simp [h]; done) | ((repeat (first | exact trivial | exact rfl | apply And.intro)); done) | (simp; omega) | (refine ⟨?_, ?_, ?_⟩ <;> (simp; omega)) | exact hc0 | exact ⟨hc0, hc0⟩ | exact ⟨hc0, hc0, hc0⟩ | (simp only [Bool.and_eq_true] at hc0; simp [hc0]; done) | (simp_all; done))))
            | ((with_reducible apply DrawR.go0); (focus kernel_rfl))
            | ((with_reducible apply KerB.mk); (focus kernel_rfl))
            | with_reducible apply ends_ret
            | with_reducible apply ends_norm
            | with_reducible apply Halt'.mk
            | ((with_reducible apply CondD.mk) <;> intro hb <;> (try simp only [SPLT] at hb) <;> (try first | contradiction | exact absurd hb (by assumption) | exact absurd (by assumption) hb | (exfalso; omega))))
        all_goals (try exact (false : Bool))
        repeat' ((conv => whnf); first | exact trivial | with_reducible apply And.intro | with_reducible apply endsO_ret | with_reducible apply endsO_norm | exact DLes.nil | with_reducible exact DLe.refl _ | exact DLe.any _ | with_reducible apply DLes.cons | with_reducible exact rle_refl | exact rle_bool rfl | exact rle_int rfl | exact rle_nil rfl | exact rle_sl0 rfl)
        all_goals (conv => whnf)
        refine rle_int ?_
        rw [← hrest, List.drop_length]
        rfl
      · have hlt := (List.getElem?_eq_some_iff.1 hx).1
        obtain ⟨hpn, hpa⟩ := hok p (List.mem_of_getElem? hx)
        have hat := parsN_at (seen := seenAt l k) (prev := prevAt l k) hx
        rw [hrest] at hat
        obtain ⟨q, hq⟩ : ∃ q : Par, 0 < k → l[k - 1]? = some q := ⟨l[k - 1]?.getD p, fun h => by rw [List.getElem?_eq_getElem (by omega)]; rfl⟩
        have hpv : notAfter (prevAt l k) p.name = (decide (0 < (k : Int)) && (Op.bytesLess p.name q.name || p.name == q.name)) := by
          cases k with
          | zero => rfl
          | succ j =>
            have := hq (by omega)
            simp only [Nat.add_sub_cancel] at this
            simp only [prevAt, this, Option.map_some, notAfter]
            rw [decide_eq_true (by omega), Bool.true_and]
        rw [hpv] at hat
        repeat' (
          (conv => whnf)
          first
            | ((with_reducible apply NumE.go); (conv => whnf); (with_reducible apply SideD.mk); (focus ((first | (intro hc; have hc0 := hc; (try simp only [SPLT] at hc); (try refine And.intro (by first | exact hc0 | exact ⟨hc0, hc0⟩ | exact ⟨hc0, hc0, hc0⟩) ?_)) | skip); first | exact shr_one _ | exact IntWalk.i64_in _ (by omega) | exact IntWalk.u8_in _ (by omega) | exact ⟨by omega, IntWalk.i64_quo _ _ ⟨by omega, by omega, by omega⟩⟩ | exact ⟨by omega, IntWalk.rem_in _ _ (by omega)⟩ | exact IntWalk.u64_in _ (by omega) | exact IntWalk.i32_in _ (by omega) | exact rfl | exact ⟨by omega, rfl⟩ | exact hc0 | exact ⟨hc0, hc0⟩ | exact ⟨hc0, hc0, hc0⟩ | (simp only [Bool.and_eq_true] at hc0; simp [hc0]; done) | (simp_all; done))))
            | ((with_reducible apply IdxE.go); (conv => whnf); (with_reducible apply SideD.mk); (focus ((first | (intro hc; have hc0 := hc; (try simp only [SPLT] at hc); (try refine And.intro (by first | exact hc0 | exact ⟨hc0, hc0⟩ | exact ⟨hc0, hc0, hc0⟩) ?_)) | skip); first | exact idx_nat (by assumption) | exact idx_some (by omega) (by assumption) | exact idx_eq (by assumption) (by omega) | exact idx_eq (hq (by omega)) (by omega) | exact hc0 | exact ⟨hc0, hc0⟩ | exact ⟨hc0, hc0, hc0⟩ | (simp only [Bool.and_eq_true] at hc0; simp [hc0]; done) | (simp_all; done))))
            | ((with_reducible apply LookE.go); (conv => whnf); (with_reducible apply SideD.mk); (focus ((first | (intro hc; have hc0 := hc; (try simp only [SPLT] at hc); (try refine And.intro (by first | exact hc0 | exact ⟨hc0, hc0⟩ | exact ⟨hc0, hc0, hc0⟩) ?_)) | skip); first | (exact idx_eq (hq (by omega)) (by omega)) | exact ⟨rfl, rfl⟩ | exact rfl | exact hc0 | exact ⟨hc0, hc0⟩ | exact ⟨hc0, hc0, hc0⟩ | (simp only [Bool.and_eq_true] at hc0; simp [hc0]; done) | (simp_all; done))))
            | ((with_reducible apply CallE.go); (conv => whnf); (with_reducible apply SideD.mk); (focus ((first | (intro hc; have hc0 := hc; (try simp only [SPLT] at hc); (try refine And.intro (by first | exact hc0 | exact ⟨hc0, hc0⟩ | exact ⟨hc0, hc0, hc0⟩) ?_)) | skip); first | ((try refine GivesL.mk rfl ?_); first | ((apply gives_go (isName18_sem _ _)); (focus (first | exact DLes.refl _ | (repeat (first | exact DLes.nil | ((apply DLes.cons); (focus (first | exact DLe.refl _ | exact DLe.own _ _ | exact DLe.nil _ _ | exact DLe.any _))))))); (focus exact rfl); (all_goals (first | exact rfl | assumption | omega | (simp; omega) | (simp; done)))) | ((apply gives_go (checkAddress_sem _ _)); (focus (first | exact DLes.refl _ | (repeat (first | exact DLes.nil | ((apply DLes.cons); (focus (first | exact DLe.refl _ | exact DLe.own _ _ | exact DLe.nil _ _ | exact DLe.any _))))))); (focus exact rfl); (all_goals (first | exact rfl | assumption | omega | (simp; omega) | (simp; done)))) | ((apply gives_go (contains_sem _ _ _)); (focus (first | exact DLes.refl _ | (repeat (first | exact DLes.nil | ((apply DLes.cons); (focus (first | exact DLe.refl _ | exact DLe.own _ _ | exact DLe.nil _ _ | exact DLe.any _))))))); (focus exact rfl); (all_goals (first | exact rfl | assumption | omega | (simp; omega) | (simp; done))))) | exact hc0 | exact ⟨hc0, hc0⟩ | exact ⟨hc0, hc0, hc0⟩ | (simp only [Bool.and_eq_true] at hc0; simp [hc0]; done) | (simp_all; done))))
            | ((with_reducible apply CallO.go); (conv => whnf); (with_reducible apply SideD.mk); (focus (first | fail)))
            | ((with_reducible apply SideD.mk); (focus ((first | (intro hc; have hc0 := hc; (try simp only [SPLT] at hc); (try refine And.intro (by first | exact hc0 | exact ⟨hc0, hc0⟩ | exact ⟨hc0, hc0, hc0⟩) ?_)) | skip); first | exact ⟨by omega, by omega⟩ | omega | exact ⟨rfl, rfl, by simp only [List.length_map, List.length_append, List.length_cons, List.length_nil]; omega⟩ | exact ⟨rfl, rfl, by simp; omega⟩ | exact ⟨rfl, rfl, by omega⟩ | exact ⟨rfl, by simp; omega⟩ | exact id | (intro h; simp [h]; done) | ((repeat (first | exact trivial | exact rfl | apply And.intro)); done) | (simp; omega) | (refine ⟨?_, ?_, ?_⟩ <;> (simp; omega)) | exact hc0 | exact ⟨hc0, hc0⟩ | exact ⟨hc0, hc0, hc0⟩ | (simp only [Bool.and_eq_true] at hc0; simp [hc0]; done) | (simp_all; done))))
            | ((with_reducible apply DrawR.go0); (focus kernel_rfl))
            | ((with_reducible apply KerB.mk); (focus kernel_rfl))
            | with_reducible apply ends_ret
            | with_reducible apply ends_norm
            | with_reducible apply Halt'.mk
            | ((with_reducible apply CondD.mk) <;> intro hb <;> (try simp only [SPLT] at hb) <;> (try first | contradiction | exact absurd hb (by assumption) | exact absurd (by assumption) hb | (exfalso; omega))))
        all_goals (try exact (false : Bool))
        · repeat' ((conv => whnf); first | exact trivial | with_reducible apply And.intro | with_reducible apply endsO_ret | with_reducible apply endsO_norm | exact DLes.nil | with_reducible exact DLe.refl _ | exact DLe.any _ | with_reducible apply DLes.cons | with_reducible exact rle_refl | exact rle_bool rfl | exact rle_int rfl | exact rle_nil rfl | exact rle_sl0 rfl)
          all_goals (conv => whnf)
          refine rle_int ?_
          rw [hat, if_pos hb]
        · rename_i hn
          repeat' ((conv => whnf); first | exact trivial | with_reducible apply And.intro | with_reducible apply endsO_ret | with_reducible apply endsO_norm | exact DLes.nil | with_reducible exact DLe.refl _ | exact DLe.any _ | with_reducible apply DLes.cons | with_reducible exact rle_refl | exact rle_bool rfl | exact rle_int rfl | exact rle_nil rfl | exact rle_sl0 rfl)
          all_goals (conv => whnf)
          refine rle_int ?_
          rw [hat, if_neg (by simp [hn]), if_pos (by simpa using hb)]
        · rename_i hn hc
          repeat' ((conv => whnf); first | exact trivial | with_reducible apply And.intro | with_reducible apply endsO_ret | with_reducible apply endsO_norm | exact DLes.nil | with_reducible exact DLe.refl _ | exact DLe.any _ | with_reducible apply DLes.cons | with_reducible exact rle_refl | exact rle_bool rfl | exact rle_int rfl | exact rle_nil rfl | exact rle_sl0 rfl)
          all_goals (conv => whnf)
          refine rle_int ?_
          rw [hat, if_neg (by simp [hn]), if_neg (nof (by simpa using hc)), if_pos (by omega)]
        · rename_i hn hc
          rw [if_neg (by simp [hn]), if_neg (nof (by simpa using hc)), if_neg (by omega)] at hat
          refine loop_go (M := fun t => mem t [7, 2000007]) hT hM (fun j : Nat => [(46, .int .i64 j), (3, .sl 1 2 ((seenAt l k ++ p.addrs.take j).map Adr.row))]) (fun j => j ≤ p.addrs.length ∧ adrsN (seenAt l k ++ p.addrs.take j) (p.addrs.drop j) = adrsN (seenAt l k) p.addrs) (fun j => p.addrs.length - j) (0) ?_ ?_ ?_
          · (conv => whnf)
            refine ⟨?_, by rfl⟩
            repeat' ((conv => whnf); first | exact DLes.nil | with_reducible exact DLe.refl _ | exact DLe.any _ | with_reducible apply DLes.cons | exact DLe.refl _ | exact dle_int (by omega) | exact dle_nil rfl | exact DLe.own _ _ | (exact DLe.of_eq (by simp)))
          · exact ⟨Nat.zero_le _, by simp⟩
          · rintro j ⟨hj, hjr⟩
            rcases hy : p.addrs[j]? with _ | a
            · have hj' : j = p.addrs.length := by have := List.getElem?_eq_none_iff.1 hy; omega
              subst hj'
              rw [List.drop_length] at hjr
              have hz : adrsN (seenAt l k) p.addrs = 0 := hjr.symm
              rw [if_neg (by omega)] at hat
              repeat' (
                (conv => whnf)
                first
                  | ((with_reducible apply NumE.go); (conv => whnf); (with_reducible apply SideD.mk); (focus ((first | (intro hc; have hc0 := hc; (try simp only [SPLT] at hc); (try refine And.intro (by first | exact hc0 | exact ⟨hc0, hc0⟩ | exact ⟨hc0, hc0, hc0⟩) ?_)) | skip); first | exact shr_one _ | exact IntWalk.i64_in _ (by omega) | exact IntWalk.u8_in _ (by omega) | exact ⟨by omega, IntWalk.i64_quo _ _ ⟨by omega, by omega, by omega⟩⟩ | exact ⟨by omega, IntWalk.rem_in _ _ (by omega)⟩ | exact IntWalk.u64_in _ (by omega) | exact IntWalk.i32_in _ (by omega) | exact rfl | exact ⟨by omega, rfl⟩ | exact hc0 | exact ⟨hc0, hc0⟩ | exact ⟨hc0, hc0, hc0⟩ | (simp only [Bool.and_eq_true] at hc0; simp [hc0]; done) | (simp_all; done))))
                  | ((with_reducible apply IdxE.go); (conv => whnf); (with_reducible apply SideD.mk); (focus ((first | (intro hc; have hc0 := hc; (try simp only [SPLT] at hc); (try refine And.intro (by first | exact hc0 | exact ⟨hc0, hc0⟩ | exact ⟨hc0, hc0, hc0⟩) ?_)) | skip); first | exact idx_nat (by assumption) | exact idx_some (by omega) (by assumption) | exact idx_eq (by assumption) (by omega) | exact hc0 | exact ⟨hc0, hc0⟩ | exact ⟨hc0, hc0, hc0⟩ | (simp only [Bool.and_eq_true] at hc0; simp [hc0]; done) | (simp_all; done))))
                  | ((with_reducible apply LookE.go); (conv => whnf); (with_reducible apply SideD.mk); (focus ((first | (intro hc; have hc0 := hc; (try simp only [SPLT] at hc); (try refine And.intro (by first | exact hc0 | exact ⟨hc0, hc0⟩ | exact ⟨hc0, hc0, hc0⟩) ?_)) | skip); first | exact ⟨rfl, rfl⟩ | exact rfl | exact hc0 | exact ⟨hc0, hc0⟩ | exact ⟨hc0, hc0, hc0⟩ | (simp only [Bool.and_eq_true] at hc0; simp [hc0]; done) | (simp_all; done))))
                  | ((with_reducible apply CallE.go); (conv => whnf); (with_reducible apply SideD.mk); (focus ((first | (intro hc; have hc0 := hc; (try simp only [SPLT] at hc); (try refine And.intro (by first | exact hc0 | exact ⟨hc0, hc0⟩ | exact ⟨hc0, hc0, hc0⟩) ?_)) | skip); first | ((try refine GivesL.mk rfl ?_); first | ((apply gives_go (isName18_sem _ _)); (focus (first | exact DLes.refl _ | (repeat (first | exact DLes.nil | ((apply DLes.cons); (focus (first | exact DLe.refl _ | exact DLe.own _ _ | exact DLe.nil _ _ | exact DLe.any _))))))); (focus exact rfl); (all_goals (first | exact rfl | assumption | omega | (simp; omega) | (simp; done)))) | ((apply gives_go (checkAddress_sem _ _)); (focus (first | exact DLes.refl _ | (repeat (first | exact DLes.nil | ((apply DLes.cons); (focus (first | exact DLe.refl _ | exact DLe.own _ _ | exact DLe.nil _ _ | exact DLe.any _))))))); (focus exact rfl); (all_goals (first | exact rfl | assumption | omega | (simp; omega) | (simp; done)))) | ((apply gives_go (contains_sem _ _ _)); (focus (first | exact DLes.refl _ | (repeat (first | exact DLes.nil | ((apply DLes.cons); (focus (first | exact DLe.refl _ | exact DLe.own _ _ | exact DLe.nil _ _ | exact DLe.any _))))))); (focus exact rfl); (all_goals (first | exact rfl | assumption | omega | (simp; omega) | (simp; done))))) | exact hc0 | exact ⟨hc0, hc0⟩ | exact ⟨hc0, hc0, hc0⟩ | (simp only [Bool.and_eq_true] at hc0; simp [hc0]; done) | (simp_all; done))))
                  | ((with_reducible apply CallO.go); (conv => whnf); (with_reducible apply SideD.mk); (focus (first | fail)))
                  | ((with_reducible apply SideD.mk); (focus ((first | (intro hc; have hc0 := hc; (try simp only [SPLT] at hc); (try refine And.intro (by first | exact hc0 | exact ⟨hc0, hc0⟩ | exact ⟨hc0, hc0, hc0⟩) ?_)) | skip); first | exact ⟨by omega, by omega⟩ | omega | exact ⟨rfl, rfl, by simp only [List.length_map, List.length_append, List.length_cons, List.length_nil]; omega⟩ | exact ⟨rfl, rfl, by simp; omega⟩ | exact ⟨rfl, rfl, by omega⟩ | exact ⟨rfl, by simp; omega⟩ | exact id | (intro h; simp [h]; done) | ((repeat (first | exact trivial | exact rfl | apply And.intro)); done) | (simp; omega) | (refine ⟨?_, ?_, ?_⟩ <;> (simp; omega)) | exact hc0 | exact ⟨hc0, hc0⟩ | exact ⟨hc0, hc0, hc0⟩ | (simp only [Bool.and_eq_true] at hc0; simp [hc0]; done) | (simp_all; done))))
                  | ((with_reducible apply DrawR.go0); (focus kernel_rfl))
                  | ((with_reducible apply KerB.mk); (focus kernel_rfl))
                  | with_reducible apply ends_ret
                  | with_reducible apply ends_norm
                  | with_reducible apply Halt'.mk
                  | ((with_reducible apply CondD.mk) <;> intro hb <;> (try simp only [SPLT] at hb) <;> (try first | contradiction | exact absurd hb (by assumption) | exact absurd (by assumption) hb | (exfalso; omega))))
              all_goals (try exact (false : Bool))
              refine ⟨k + 1, ⟨by omega, ?_, ?_⟩, by omega, ?_⟩
              · rw [seenAt_next hx, hat]
                simp [prevAt, hx]
              · rw [seenAt_next hx, List.length_append]
                omega
              · (conv => whnf)
                refine ⟨?_, by rfl⟩
                repeat' ((conv => whnf); first | exact DLes.nil | with_reducible exact DLe.refl _ | exact DLe.any _ | with_reducible apply DLes.cons | exact DLe.refl _ | exact dle_int (by omega) | exact dle_nil rfl | exact DLe.own _ _ | (exact DLe.of_eq (by rw [seenAt_next hx, List.take_length])))
            · have hjlt := (List.getElem?_eq_some_iff.1 hy).1
              have hya := hpa a (List.mem_of_getElem? hy)
              have haj := adrsN_at (seen := seenAt l k ++ p.addrs.take j) hy
              rw [hjr] at haj
              have hl2 : (seenAt l k ++ p.addrs.take j).length ≤ 1000000000 := by rw [List.length_append, List.length_take]; omega
              repeat' (
                (conv => whnf)
                first
                  | ((with_reducible apply NumE.go); (conv => whnf); (with_reducible apply SideD.mk); (focus ((first | (intro hc; have hc0 := hc; (try simp only [SPLT] at hc); (try refine And.intro (by first | exact hc0 | exact ⟨hc0, hc0⟩ | exact ⟨hc0, hc0, hc0⟩) ?_)) | skip); first | exact shr_one _ | exact IntWalk.i64_in _ (by omega) | exact IntWalk.u8_in _ (by omega) | exact ⟨by omega, IntWalk.i64_quo _ _ ⟨by omega, by omega, by omega⟩⟩ | exact ⟨by omega, IntWalk.rem_in _ _ (by omega)⟩ | exact IntWalk.u64_in _ (by omega) | exact IntWalk.i32_in _ (by omega) | exact rfl | exact ⟨by omega, rfl⟩ | exact hc0 | exact ⟨hc0, hc0⟩ | exact ⟨hc0, hc0, hc0⟩ | (simp only [Bool.and_eq_true] at hc0; simp [hc0]; done) | (simp_all; done))))
                  | ((with_reducible apply IdxE.go); (conv => whnf); (with_reducible apply SideD.mk); (focus ((first | (intro hc; have hc0 := hc; (try simp only [SPLT] at hc); (try refine And.intro (by first | exact hc0 | exact ⟨hc0, hc0⟩ | exact ⟨hc0, hc0, hc0⟩) ?_)) | skip); first | exact idx_nat (by assumption) | exact idx_some (by omega) (by assumption) | exact idx_eq (by assumption) (by omega) | exact hc0 | exact ⟨hc0, hc0⟩ | exact ⟨hc0, hc0, hc0⟩ | (simp only [Bool.and_eq_true] at hc0; simp [hc0]; done) | (simp_all; done))))
                  | ((with_reducible apply LookE.go); (conv => whnf); (with_reducible apply SideD.mk); (focus ((first | (intro hc; have hc0 := hc; (try simp only [SPLT] at hc); (try refine And.intro (by first | exact hc0 | exact ⟨hc0, hc0⟩ | exact ⟨hc0, hc0, hc0⟩) ?_)) | skip); first | exact ⟨rfl, rfl⟩ | exact rfl | exact hc0 | exact ⟨hc0, hc0⟩ | exact ⟨hc0, hc0, hc0⟩ | (simp only [Bool.and_eq_true] at hc0; simp [hc0]; done) | (simp_all; done))))
                  | ((with_reducible apply CallE.go); (conv => whnf); (with_reducible apply SideD.mk); (focus ((first | (intro hc; have hc0 := hc; (try simp only [SPLT] at hc); (try refine And.intro (by first | exact hc0 | exact ⟨hc0, hc0⟩ | exact ⟨hc0, hc0, hc0⟩) ?_)) | skip); first | ((try refine GivesL.mk rfl ?_); first | ((apply gives_go (isName18_sem _ _)); (focus (first | exact DLes.refl _ | (repeat (first | exact DLes.nil | ((apply DLes.cons); (focus (first | exact DLe.refl _ | exact DLe.own _ _ | exact DLe.nil _ _ | exact DLe.any _))))))); (focus exact rfl); (all_goals (first | exact rfl | assumption | omega | (simp; omega) | (simp; done)))) | ((apply gives_go (checkAddress_sem _ _)); (focus (first | exact DLes.refl _ | (repeat (first | exact DLes.nil | ((apply DLes.cons); (focus (first | exact DLe.refl _ | exact DLe.own _ _ | exact DLe.nil _ _ | exact DLe.any _))))))); (focus exact rfl); (all_goals (first | exact rfl | assumption | omega | (simp; omega) | (simp; done)))) | ((apply gives_go (contains_sem _ _ _)); (focus (first | exact DLes.refl _ | (repeat (first | exact DLes.nil | ((apply DLes.cons); (focus (first | exact DLe.refl _ | exact DLe.own _ _ | exact DLe.nil _ _ | exact DLe.any _))))))); (focus exact rfl); (all_goals (first | exact rfl | assumption | omega | (simp; omega) | (simp; done))))) | exact hc0 | exact ⟨hc0, hc0⟩ | exact ⟨hc0, hc0, hc0⟩ | (simp only [Bool.and_eq_true] at hc0; simp [hc0]; done) | (simp_all; done))))
                  | ((with_reducible apply CallO.go); (conv => whnf); (with_reducible apply SideD.mk); (focus (first | fail)))
                  | ((with_reducible apply SideD.mk); (focus ((first | (intro hc; have hc0 := hc; (try simp only [SPLT] at hc); (try refine And.intro (by first | exact hc0 | exact ⟨hc0, hc0⟩ | exact ⟨hc0, hc0, hc0⟩) ?_)) | skip); first | exact ⟨by omega, by omega⟩ | omega | exact ⟨rfl, rfl, by simp only [List.length_map, List.length_append, List.length_cons, List.length_nil]; omega⟩ | exact ⟨rfl, rfl, by simp; omega⟩ | exact ⟨rfl, rfl, by omega⟩ | exact ⟨rfl, by simp; omega⟩ | exact id | (intro h; simp [h]; done) | ((repeat (first | exact trivial | exact rfl | apply And.intro)); done) | (simp; omega) | (refine ⟨?_, ?_, ?_⟩ <;> (simp; omega)) | exact hc0 | exact ⟨hc0, hc0⟩ | exact ⟨hc0, hc0, hc0⟩ | (simp only [Bool.and_eq_true] at hc0; simp [hc0]; done) | (simp_all; done))))
                  | ((with_reducible apply DrawR.go0); (focus kernel_rfl))
                  | ((with_reducible apply KerB.mk); (focus kernel_rfl))
                  | with_reducible apply ends_ret
                  | with_reducible apply ends_norm
                  | with_reducible apply Halt'.mk
                  | ((with_reducible apply CondD.mk) <;> intro hb <;> (try simp only [SPLT] at hb) <;> (try first | contradiction | exact absurd hb (by assumption) | exact absurd (by assumption) hb | (exfalso; omega))))
              all_goals (try exact (false : Bool))
              · repeat' ((conv => whnf); first | exact trivial | with_reducible apply And.intro | with_reducible apply endsO_ret | with_reducible apply endsO_norm | exact DLes.nil | with_reducible exact DLe.refl _ | exact DLe.any _ | with_reducible apply DLes.cons | with_reducible exact rle_refl | exact rle_bool rfl | exact rle_int rfl | exact rle_nil rfl | exact rle_sl0 rfl)
                all_goals (conv => whnf)
                refine rle_int ?_
                rw [if_pos hb] at haj
                rw [hat, haj, if_pos hb]
              · rename_i hf
                repeat' ((conv => whnf); first | exact trivial | with_reducible apply And.intro | with_reducible apply endsO_ret | with_reducible apply endsO_norm | exact DLes.nil | with_reducible exact DLe.refl _ | exact DLe.any _ | with_reducible apply DLes.cons | with_reducible exact rle_refl | exact rle_bool rfl | exact rle_int rfl | exact rle_nil rfl | exact rle_sl0 rfl)
                all_goals (conv => whnf)
                refine rle_int ?_
                rw [if_neg (by omega), if_pos hb] at haj
                rw [hat, haj, if_pos (by decide)]
              · rename_i hf
                rw [if_neg (by omega), if_neg hb] at haj
                refine ⟨j + 1, ⟨by omega, ?_⟩, by omega, ?_⟩
                · rw [take_at hy, ← List.append_assoc]
                  exact haj.symm
                · (conv => whnf)
                  refine ⟨?_, by rfl⟩
                  repeat' ((conv => whnf); first | exact DLes.nil | with_reducible exact DLe.refl _ | exact DLe.any _ | with_reducible apply DLes.cons | exact DLe.refl _ | exact dle_int (by omega) | exact dle_nil rfl | exact DLe.own _ _ | (exact dle_sl (by rw [take_at hy, ← List.append_assoc]; simp)))
end Go.Proofs.YtdopillligfdiaaDoor
