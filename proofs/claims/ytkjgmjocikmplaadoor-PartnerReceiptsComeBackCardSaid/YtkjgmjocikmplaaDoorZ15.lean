/- Digests and seals: the walks. Seals: the walks. Receipts: the walks. Receipts are written; numbers and words are read: the walks. Numbers and words are read: the walks. Words and receipts are read: the walks. A receipt comes back: the walk of the law. -/
import Derived.Test.YtkjgmjocikmplaaDoorZ8
import Derived.Test.YtkjgmjocikmplaaDoorZ13
import Derived.Test.YtkjgmjocikmplaaDoorZ14
namespace Go.Proofs.YtkjgmjocikmplaaDoor
set_option linter.unusedSimpArgs false
set_option linter.unusedVariables false
open Go.RowKit
set_option maxRecDepth 100000
set_option maxHeartbeats 1000000

theorem fmtUint_sem (u : Nat) (hu : u < 16 ^ 16) : Sem Tryd.prog 27 [.int .u64 u, .int .i64 16] (.str (fmt16 u)) :=
  sem_valsG (us := [.int .u64 u, .int .i64 16]) (v := .string ⟨(fmt16 u).toArray⟩) rfl rfl (fun _ _ => .str _) fun S w hg =>
    (fmtUint u hu w (tab_cell (g := 7) rfl hg rfl)).mono fun e w' ⟨he, cur, hw⟩ => ⟨he, by subst hw; exact Ext.alloc _ _⟩
theorem Digest_sem (s : List UInt8) (hs : s.length ≤ 1000000000) : Sem Tryd.prog 18 [.sl 0 1 (s.map bR)] (.str (digestN s)) := by
  refine sem_intro (M := fun t => mem t []) hT hM Tryd.func18 inferInstance rfl rfl rfl rfl rfl rfl ?_
  repeat' (
    (conv => whnf)
    first
      | ((try ((first | with_reducible apply NumE.go | with_reducible apply IdxE.go | with_reducible apply TextE.go | with_reducible apply LookE.go | with_reducible apply CallE.go); (conv => whnf))); (with_reducible apply SideD.mk); (focus (first | exact idx_nat (by assumption) | exact idx_some (by omega) (by assumption) | exact idx_eq (by assumption) (by omega) | ((try apply givesl); (focus (((first | apply gives_go (fmtUint_sem _ _) | apply gives_go (repeat_sem _ _ _ _ _)); (focus (first | exact DLes.refl _ | (repeat (first | exact DLes.nil | ((apply DLes.cons); (focus (first | exact DLe.refl _ | exact DLe.own _ _ | exact DLe.nil _ _ | exact DLe.any _))))))); (focus exact rfl); (all_goals (first | exact rfl | assumption | omega | (simp; omega) | (simp; done)))))); (all_goals exact rfl)) | exact IntWalk.i64_in _ (by omega) | exact IntWalk.u8_in _ (by omega) | exact IntWalk.u64_in _ (by omega) | exact IntWalk.i32_in _ (by omega) | exact rfl | exact ⟨by omega, rfl⟩ | exact ⟨rfl, rfl⟩ | assumption | exact ⟨by omega, by omega⟩ | exact ⟨by omega, by simp; omega⟩ | omega | exact ⟨rfl, rfl, by simp only [List.length_map, List.length_append, List.length_cons, List.length_nil]; omega⟩ | exact ⟨rfl, rfl, by simp; omega⟩ | exact ⟨rfl, rfl, by omega⟩ | exact ⟨rfl, by simp; omega⟩ | exact id | (intro h; simp [h]; done) | ((repeat (first | exact trivial | exact rfl | apply And.intro)); done) | (simp; omega) | (refine ⟨?_, ?_, ?_⟩ <;> first | omega | (simp; done) | (simp; omega)) | (simp_all; done))))
      | ((first | with_reducible apply DrawR.go0 | with_reducible apply KerB.mk); (focus kernel_rfl))
      | (first | with_reducible apply ends_ret | with_reducible apply ends_norm | with_reducible apply Halt'.mk)
      | ((with_reducible apply CondD.mk) <;> intro hb <;> (try simp only [SPLT] at hb) <;> (try first | contradiction | exact absurd hb (by assumption) | exact absurd (by assumption) hb | (exfalso; omega) | (exfalso; simp at hb; done))))
  all_goals (try exact (false : Bool))
  refine loop_go (M := fun t => mem t []) hT hM (fun k : Nat => [(3, .int .u64 (fnv (s.take k))), (9, .int .i64 k)]) (fun k => k ≤ s.length) (fun k => s.length - k) (0) ?_ ?_ ?_
  · (conv => whnf)
    refine ⟨?_, by rfl⟩
    repeat' ((conv => whnf); first | exact DLes.nil | with_reducible exact DLe.refl _ | exact DLe.any _ | with_reducible apply DLes.cons | exact DLe.refl _ | exact dle_int (by omega) | exact dle_nil rfl | exact DLe.own _ _)
  · exact Nat.zero_le _
  · intro k hk
    rcases hx : s[k]? with _ | x
    · have hk' : k = s.length := by have := List.getElem?_eq_none_iff.1 hx; omega
      subst hk'
      rw [List.take_length]
      have hb := fnv_bd s
      obtain ⟨u, hu⟩ : ∃ u : Nat, fnv s = u := ⟨(fnv s).toNat, by omega⟩
      obtain ⟨d1, d2⟩ := digest_fmt s
      rw [hu, Int.toNat_natCast] at d1 d2
      rw [hu]
      have hrl : (Lib.repeatL [48] (16 - ((fmt16 u).length : Int)).toNat).length + (fmt16 u).length ≤ 9223372036854775807 := by
        rw [Lib.repeatL_length, List.length_singleton]
        omega
      have hu2 : u < 16 ^ 16 := by simp only [Nat.reducePow]; omega
      repeat' (
        (conv => whnf)
        first
          | ((try ((first | with_reducible apply NumE.go | with_reducible apply IdxE.go | with_reducible apply TextE.go | with_reducible apply LookE.go | with_reducible apply CallE.go); (conv => whnf))); (with_reducible apply SideD.mk); (focus (first | exact idx_nat (by assumption) | exact idx_some (by omega) (by assumption) | exact idx_eq (by assumption) (by omega) | ((try apply givesl); (focus (((first | apply gives_go (fmtUint_sem u hu2) | apply gives_go (repeat_sem [48] (16 - ((fmt16 u).length : Int)) (by omega) (by omega) (by decide))); (focus (first | exact DLes.refl _ | (repeat (first | exact DLes.nil | ((apply DLes.cons); (focus (first | exact DLe.refl _ | exact DLe.own _ _ | exact DLe.nil _ _ | exact DLe.any _))))))); (focus exact rfl); (all_goals (first | exact rfl | assumption | omega | (simp; omega) | (simp; done)))))); (all_goals exact rfl)) | exact IntWalk.i64_in _ (by omega) | exact IntWalk.u8_in _ (by omega) | exact IntWalk.u64_in _ (by omega) | exact IntWalk.i32_in _ (by omega) | exact rfl | exact ⟨by omega, rfl⟩ | exact ⟨rfl, rfl⟩ | assumption | exact ⟨by omega, by omega⟩ | exact ⟨by omega, by simp; omega⟩ | omega | exact ⟨rfl, rfl, by simp only [List.length_map, List.length_append, List.length_cons, List.length_nil]; omega⟩ | exact ⟨rfl, rfl, by simp; omega⟩ | exact ⟨rfl, rfl, by omega⟩ | exact ⟨rfl, by simp; omega⟩ | exact id | (intro h; simp [h]; done) | ((repeat (first | exact trivial | exact rfl | apply And.intro)); done) | (simp; omega) | (refine ⟨?_, ?_, ?_⟩ <;> first | omega | (simp; done) | (simp; omega)) | (simp_all; done))))
          | ((first | with_reducible apply DrawR.go0 | with_reducible apply KerB.mk); (focus kernel_rfl))
          | (first | with_reducible apply ends_ret | with_reducible apply ends_norm | with_reducible apply Halt'.mk)
          | ((with_reducible apply CondD.mk) <;> intro hb <;> (try simp only [SPLT] at hb) <;> (try first | contradiction | exact absurd hb (by assumption) | exact absurd (by assumption) hb | (exfalso; omega) | (exfalso; simp at hb; done))))
      all_goals (try exact (false : Bool))
      repeat' ((conv => whnf); first | exact trivial | with_reducible apply And.intro | with_reducible apply endsO_ret | with_reducible apply endsO_norm | exact DLes.nil | with_reducible exact DLe.refl _ | exact DLe.any _ | with_reducible apply DLes.cons | with_reducible exact rle_refl | exact rle_bool rfl | exact rle_int rfl | exact rle_nil rfl | exact rle_sl0 rfl)
      all_goals (conv => whnf)
      refine rle_str ?_
      rw [repeat_zero, ← d2]
      congr 3
      omega
    · have hlt := (List.getElem?_eq_some_iff.1 hx).1
      have hxb : x.toNat < 256 := x.toNat_lt
      repeat' (
        (conv => whnf)
        first
          | ((try ((first | with_reducible apply NumE.go | with_reducible apply IdxE.go | with_reducible apply TextE.go | with_reducible apply LookE.go | with_reducible apply CallE.go); (conv => whnf))); (with_reducible apply SideD.mk); (focus (first | exact idx_nat (by assumption) | exact idx_some (by omega) (by assumption) | exact idx_eq (by assumption) (by omega) | ((try apply givesl); (focus (((first | apply gives_go (fmtUint_sem _ _) | apply gives_go (repeat_sem _ _ _ _ _)); (focus (first | exact DLes.refl _ | (repeat (first | exact DLes.nil | ((apply DLes.cons); (focus (first | exact DLe.refl _ | exact DLe.own _ _ | exact DLe.nil _ _ | exact DLe.any _))))))); (focus exact rfl); (all_goals (first | exact rfl | assumption | omega | (simp; omega) | (simp; done)))))); (all_goals exact rfl)) | exact IntWalk.i64_in _ (by omega) | exact IntWalk.u8_in _ (by omega) | exact IntWalk.u64_in _ (by omega) | exact IntWalk.i32_in _ (by omega) | exact rfl | exact ⟨by omega, rfl⟩ | exact ⟨rfl, rfl⟩ | assumption | exact ⟨by omega, by omega⟩ | exact ⟨by omega, by simp; omega⟩ | omega | exact ⟨rfl, rfl, by simp only [List.length_map, List.length_append, List.length_cons, List.length_nil]; omega⟩ | exact ⟨rfl, rfl, by simp; omega⟩ | exact ⟨rfl, rfl, by omega⟩ | exact ⟨rfl, by simp; omega⟩ | exact id | (intro h; simp [h]; done) | ((repeat (first | exact trivial | exact rfl | apply And.intro)); done) | (simp; omega) | (refine ⟨?_, ?_, ?_⟩ <;> first | omega | (simp; done) | (simp; omega)) | (simp_all; done))))
          | ((first | with_reducible apply DrawR.go0 | with_reducible apply KerB.mk); (focus kernel_rfl))
          | (first | with_reducible apply ends_ret | with_reducible apply ends_norm | with_reducible apply Halt'.mk)
          | ((with_reducible apply CondD.mk) <;> intro hb <;> (try simp only [SPLT] at hb) <;> (try first | contradiction | exact absurd hb (by assumption) | exact absurd (by assumption) hb | (exfalso; omega) | (exfalso; simp at hb; done))))
      all_goals (try exact (false : Bool))
      refine ⟨k + 1, by omega, by omega, ?_⟩
      (conv => whnf)
      refine ⟨?_, by rfl⟩
      repeat' ((conv => whnf); first | exact DLes.nil | with_reducible exact DLe.refl _ | exact DLe.any _ | (exact dle_int (fnv_take hx).symm) | with_reducible apply DLes.cons | exact DLe.refl _ | exact dle_int (by omega) | exact dle_nil rfl | exact DLe.own _ _)
end Go.Proofs.YtkjgmjocikmplaaDoor
namespace Go.Proofs.YtkjgmjocikmplaaDoor
set_option linter.unusedSimpArgs false
set_option linter.unusedVariables false
open Go.RowKit
set_option maxRecDepth 100000
set_option maxHeartbeats 1000000

def lenAt (a b : List UInt8) : Nat → Int
  | 0 => 0
  | 1 => a.length
  | _ => a.length + b.length
def preAt (a b : List UInt8) : Nat → List (List D)
  | 0 => []
  | 1 => a.map bR
  | _ => a.map bR ++ b.map bR
theorem Concat_sem (a b : List UInt8) (ha : a.length ≤ 1000000) (hb : b.length ≤ 1000000) : Sem Tryd.prog 19 [.sl 0 1 [[.sl 0 1 (a.map bR)], [.sl 0 1 (b.map bR)]]] (.sl 2 1 ((a ++ b).map bR)) := by
  have la : (a.map bR).length = a.length := List.length_map _
  have lb : (b.map bR).length = b.length := List.length_map _
  have e0 : lenAt a b 0 = 0 := rfl
  have e1 : lenAt a b 1 = a.length := rfl
  have e2 : lenAt a b 2 = a.length + b.length := rfl
  have p0 : (preAt a b 0).length = 0 := rfl
  have p1 : (preAt a b 1).length = a.length := la
  rw [List.map_append]
  refine sem_intro (M := fun t => mem t []) hT hM Tryd.func19 inferInstance rfl rfl rfl rfl rfl rfl ?_
  repeat' (
    (conv => whnf)
    first
      | ((try ((first | with_reducible apply NumE.go | with_reducible apply IdxE.go | with_reducible apply TextE.go | with_reducible apply LookE.go | with_reducible apply CallE.go); (conv => whnf))); (with_reducible apply SideD.mk); (focus (first | exact idx_nat (by assumption) | exact idx_some (by omega) (by assumption) | exact idx_eq (by assumption) (by omega) | ((try apply givesl); (focus (((apply gives_go (grow_sem _ _)); (focus (first | exact DLes.refl _ | (repeat (first | exact DLes.nil | ((apply DLes.cons); (focus (first | exact DLe.refl _ | exact DLe.own _ _ | exact DLe.nil _ _ | exact DLe.any _))))))); (focus exact rfl); (all_goals (first | exact rfl | assumption | omega | (simp; omega) | (simp; done)))))); (all_goals exact rfl)) | exact IntWalk.i64_in _ (by omega) | exact IntWalk.u8_in _ (by omega) | exact IntWalk.u64_in _ (by omega) | exact IntWalk.i32_in _ (by omega) | exact rfl | exact ⟨by omega, rfl⟩ | exact ⟨rfl, rfl⟩ | assumption | exact ⟨by omega, by omega⟩ | exact ⟨by omega, by simp; omega⟩ | omega | exact ⟨rfl, rfl, by simp only [List.length_map, List.length_append, List.length_cons, List.length_nil]; omega⟩ | exact ⟨rfl, rfl, by simp; omega⟩ | exact ⟨rfl, rfl, by omega⟩ | exact ⟨rfl, by simp; omega⟩ | exact id | (intro h; simp [h]; done) | ((repeat (first | exact trivial | exact rfl | apply And.intro)); done) | (simp; omega) | (refine ⟨?_, ?_, ?_⟩ <;> first | omega | (simp; done) | (simp; omega)) | (simp_all; done))))
      | ((first | with_reducible apply DrawR.go0 | with_reducible apply KerB.mk); (focus kernel_rfl))
      | (first | with_reducible apply ends_ret | with_reducible apply ends_norm | with_reducible apply Halt'.mk)
      | ((with_reducible apply CondD.mk) <;> intro hb <;> (try simp only [SPLT] at hb) <;> (try first | contradiction | exact absurd hb (by assumption) | exact absurd (by assumption) hb | (exfalso; omega) | (exfalso; simp at hb; done))))
  all_goals (try exact (false : Bool))
  refine loop_go (M := fun t => mem t []) hT hM (fun k : Nat => [(3, .int .i64 (lenAt a b k)), (11, .int .i64 k)]) (fun k => k ≤ 2) (fun k => 2 - k) (0) ?_ ?_ ?_
  · (conv => whnf)
    refine ⟨?_, by rfl⟩
    repeat' ((conv => whnf); first | exact DLes.nil | with_reducible exact DLe.refl _ | exact DLe.any _ | with_reducible apply DLes.cons | exact DLe.refl _ | exact dle_int (by omega) | exact dle_nil rfl | exact DLe.own _ _)
  · omega
  · intro k hk
    obtain rfl | rfl | rfl : k = 0 ∨ k = 1 ∨ k = 2 := by omega
    · repeat' (
        (conv => whnf)
        first
          | ((try ((first | with_reducible apply NumE.go | with_reducible apply IdxE.go | with_reducible apply TextE.go | with_reducible apply LookE.go | with_reducible apply CallE.go); (conv => whnf))); (with_reducible apply SideD.mk); (focus (first | exact idx_nat (by assumption) | exact idx_some (by omega) (by assumption) | exact idx_eq (by assumption) (by omega) | ((try apply givesl); (focus (((apply gives_go (grow_sem _ _)); (focus (first | exact DLes.refl _ | (repeat (first | exact DLes.nil | ((apply DLes.cons); (focus (first | exact DLe.refl _ | exact DLe.own _ _ | exact DLe.nil _ _ | exact DLe.any _))))))); (focus exact rfl); (all_goals (first | exact rfl | assumption | omega | (simp; omega) | (simp; done)))))); (all_goals exact rfl)) | exact IntWalk.i64_in _ (by omega) | exact IntWalk.u8_in _ (by omega) | exact IntWalk.u64_in _ (by omega) | exact IntWalk.i32_in _ (by omega) | exact rfl | exact ⟨by omega, rfl⟩ | exact ⟨rfl, rfl⟩ | assumption | exact ⟨by omega, by omega⟩ | exact ⟨by omega, by simp; omega⟩ | omega | exact ⟨rfl, rfl, by simp only [List.length_map, List.length_append, List.length_cons, List.length_nil]; omega⟩ | exact ⟨rfl, rfl, by simp; omega⟩ | exact ⟨rfl, rfl, by omega⟩ | exact ⟨rfl, by simp; omega⟩ | exact id | (intro h; simp [h]; done) | ((repeat (first | exact trivial | exact rfl | apply And.intro)); done) | (simp; omega) | (refine ⟨?_, ?_, ?_⟩ <;> first | omega | (simp; done) | (simp; omega)) | (simp_all; done))))
          | ((first | with_reducible apply DrawR.go0 | with_reducible apply KerB.mk); (focus kernel_rfl))
          | (first | with_reducible apply ends_ret | with_reducible apply ends_norm | with_reducible apply Halt'.mk)
          | ((with_reducible apply CondD.mk) <;> intro hb <;> (try simp only [SPLT] at hb) <;> (try first | contradiction | exact absurd hb (by assumption) | exact absurd (by assumption) hb | (exfalso; omega) | (exfalso; simp at hb; done))))
      all_goals (try exact (false : Bool))
      refine ⟨1, by omega, by omega, ?_⟩
      (conv => whnf)
      refine ⟨?_, by rfl⟩
      repeat' ((conv => whnf); first | exact DLes.nil | with_reducible exact DLe.refl _ | exact DLe.any _ | (exact dle_int (by simp [lenAt])) | with_reducible apply DLes.cons | exact DLe.refl _ | exact dle_int (by omega) | exact dle_nil rfl | exact DLe.own _ _)
    · repeat' (
        (conv => whnf)
        first
          | ((try ((first | with_reducible apply NumE.go | with_reducible apply IdxE.go | with_reducible apply TextE.go | with_reducible apply LookE.go | with_reducible apply CallE.go); (conv => whnf))); (with_reducible apply SideD.mk); (focus (first | exact idx_nat (by assumption) | exact idx_some (by omega) (by assumption) | exact idx_eq (by assumption) (by omega) | ((try apply givesl); (focus (((apply gives_go (grow_sem _ _)); (focus (first | exact DLes.refl _ | (repeat (first | exact DLes.nil | ((apply DLes.cons); (focus (first | exact DLe.refl _ | exact DLe.own _ _ | exact DLe.nil _ _ | exact DLe.any _))))))); (focus exact rfl); (all_goals (first | exact rfl | assumption | omega | (simp; omega) | (simp; done)))))); (all_goals exact rfl)) | exact IntWalk.i64_in _ (by omega) | exact IntWalk.u8_in _ (by omega) | exact IntWalk.u64_in _ (by omega) | exact IntWalk.i32_in _ (by omega) | exact rfl | exact ⟨by omega, rfl⟩ | exact ⟨rfl, rfl⟩ | assumption | exact ⟨by omega, by omega⟩ | exact ⟨by omega, by simp; omega⟩ | omega | exact ⟨rfl, rfl, by simp only [List.length_map, List.length_append, List.length_cons, List.length_nil]; omega⟩ | exact ⟨rfl, rfl, by simp; omega⟩ | exact ⟨rfl, rfl, by omega⟩ | exact ⟨rfl, by simp; omega⟩ | exact id | (intro h; simp [h]; done) | ((repeat (first | exact trivial | exact rfl | apply And.intro)); done) | (simp; omega) | (refine ⟨?_, ?_, ?_⟩ <;> first | omega | (simp; done) | (simp; omega)) | (simp_all; done))))
          | ((first | with_reducible apply DrawR.go0 | with_reducible apply KerB.mk); (focus kernel_rfl))
          | (first | with_reducible apply ends_ret | with_reducible apply ends_norm | with_reducible apply Halt'.mk)
          | ((with_reducible apply CondD.mk) <;> intro hb <;> (try simp only [SPLT] at hb) <;> (try first | contradiction | exact absurd hb (by assumption) | exact absurd (by assumption) hb | (exfalso; omega) | (exfalso; simp at hb; done))))
      all_goals (try exact (false : Bool))
      refine ⟨2, by omega, by omega, ?_⟩
      (conv => whnf)
      refine ⟨?_, by rfl⟩
      repeat' ((conv => whnf); first | exact DLes.nil | with_reducible exact DLe.refl _ | exact DLe.any _ | (exact dle_int (by simp [lenAt])) | with_reducible apply DLes.cons | exact DLe.refl _ | exact dle_int (by omega) | exact dle_nil rfl | exact DLe.own _ _)
    · repeat' (
        (conv => whnf)
        first
          | ((try ((first | with_reducible apply NumE.go | with_reducible apply IdxE.go | with_reducible apply TextE.go | with_reducible apply LookE.go | with_reducible apply CallE.go); (conv => whnf))); (with_reducible apply SideD.mk); (focus (first | exact idx_nat (by assumption) | exact idx_some (by omega) (by assumption) | exact idx_eq (by assumption) (by omega) | ((try apply givesl); (focus (((apply gives_go (grow_sem (a.length + b.length) (by omega))); (focus (first | exact DLes.refl _ | (repeat (first | exact DLes.nil | ((apply DLes.cons); (focus (first | exact DLe.refl _ | exact DLe.own _ _ | exact DLe.nil _ _ | exact DLe.any _))))))); (focus exact rfl); (all_goals (first | exact rfl | assumption | omega | (simp; omega) | (simp; done)))))); (all_goals exact rfl)) | exact IntWalk.i64_in _ (by omega) | exact IntWalk.u8_in _ (by omega) | exact IntWalk.u64_in _ (by omega) | exact IntWalk.i32_in _ (by omega) | exact rfl | exact ⟨by omega, rfl⟩ | exact ⟨rfl, rfl⟩ | assumption | exact ⟨by omega, by omega⟩ | exact ⟨by omega, by simp; omega⟩ | omega | exact ⟨rfl, rfl, by simp only [List.length_map, List.length_append, List.length_cons, List.length_nil]; omega⟩ | exact ⟨rfl, rfl, by simp; omega⟩ | exact ⟨rfl, rfl, by omega⟩ | exact ⟨rfl, by simp; omega⟩ | exact id | (intro h; simp [h]; done) | ((repeat (first | exact trivial | exact rfl | apply And.intro)); done) | (simp; omega) | (refine ⟨?_, ?_, ?_⟩ <;> first | omega | (simp; done) | (simp; omega)) | (simp_all; done))))
          | ((first | with_reducible apply DrawR.go0 | with_reducible apply KerB.mk); (focus kernel_rfl))
          | (first | with_reducible apply ends_ret | with_reducible apply ends_norm | with_reducible apply Halt'.mk)
          | ((with_reducible apply CondD.mk) <;> intro hb <;> (try simp only [SPLT] at hb) <;> (try first | contradiction | exact absurd hb (by assumption) | exact absurd (by assumption) hb | (exfalso; omega) | (exfalso; simp at hb; done))))
      all_goals (try exact (false : Bool))
      refine loop_go (M := fun t => mem t []) hT hM (fun k : Nat => [(6, .sl 2 1 (preAt a b k)), (27, .int .i64 k)]) (fun k => k ≤ 2) (fun k => 2 - k) (0) ?_ ?_ ?_
      · (conv => whnf)
        refine ⟨?_, by rfl⟩
        repeat' ((conv => whnf); first | exact DLes.nil | with_reducible exact DLe.refl _ | exact DLe.any _ | with_reducible apply DLes.cons | exact DLe.refl _ | exact dle_int (by omega) | exact dle_nil rfl | exact DLe.own _ _)
      · omega
      · intro k hk
        obtain rfl | rfl | rfl : k = 0 ∨ k = 1 ∨ k = 2 := by omega
        · repeat' (
            (conv => whnf)
            first
              | ((try ((first | with_reducible apply NumE.go | with_reducible apply IdxE.go | with_reducible apply TextE.go | with_reducible apply LookE.go | with_reducible apply CallE.go); (conv => whnf))); (with_reducible apply SideD.mk); (focus (first | exact idx_nat (by assumption) | exact idx_some (by omega) (by assumption) | exact idx_eq (by assumption) (by omega) | ((try apply givesl); (focus (((apply gives_go (grow_sem _ _)); (focus (first | exact DLes.refl _ | (repeat (first | exact DLes.nil | ((apply DLes.cons); (focus (first | exact DLe.refl _ | exact DLe.own _ _ | exact DLe.nil _ _ | exact DLe.any _))))))); (focus exact rfl); (all_goals (first | exact rfl | assumption | omega | (simp; omega) | (simp; done)))))); (all_goals exact rfl)) | exact IntWalk.i64_in _ (by omega) | exact IntWalk.u8_in _ (by omega) | exact IntWalk.u64_in _ (by omega) | exact IntWalk.i32_in _ (by omega) | exact rfl | exact ⟨by omega, rfl⟩ | exact ⟨rfl, rfl⟩ | assumption | exact ⟨by omega, by omega⟩ | exact ⟨by omega, by simp; omega⟩ | omega | exact ⟨rfl, rfl, by simp only [List.length_map, List.length_append, List.length_cons, List.length_nil]; omega⟩ | exact ⟨rfl, rfl, by simp; omega⟩ | exact ⟨rfl, rfl, by omega⟩ | exact ⟨rfl, by simp; omega⟩ | exact id | (intro h; simp [h]; done) | ((repeat (first | exact trivial | exact rfl | apply And.intro)); done) | (simp; omega) | (refine ⟨?_, ?_, ?_⟩ <;> first | omega | (simp; done) | (simp; omega)) | (simp_all; done))))
              | ((first | with_reducible apply DrawR.go0 | with_reducible apply KerB.mk); (focus kernel_rfl))
              | (first | with_reducible apply ends_ret | with_reducible apply ends_norm | with_reducible apply Halt'.mk)
              | ((with_reducible apply CondD.mk) <;> intro hb <;> (try simp only [SPLT] at hb) <;> (try first | contradiction | exact absurd hb (by assumption) | exact absurd (by assumption) hb | (exfalso; omega) | (exfalso; simp at hb; done))))
          all_goals (try exact (false : Bool))
          refine ⟨1, by omega, by omega, ?_⟩
          (conv => whnf)
          refine ⟨?_, by rfl⟩
          repeat' ((conv => whnf); first | exact DLes.nil | with_reducible exact DLe.refl _ | exact DLe.any _ | (exact dle_sl rfl) | with_reducible apply DLes.cons | exact DLe.refl _ | exact dle_int (by omega) | exact dle_nil rfl | exact DLe.own _ _)
        · repeat' (
            (conv => whnf)
            first
              | ((try ((first | with_reducible apply NumE.go | with_reducible apply IdxE.go | with_reducible apply TextE.go | with_reducible apply LookE.go | with_reducible apply CallE.go); (conv => whnf))); (with_reducible apply SideD.mk); (focus (first | exact idx_nat (by assumption) | exact idx_some (by omega) (by assumption) | exact idx_eq (by assumption) (by omega) | ((try apply givesl); (focus (((apply gives_go (grow_sem _ _)); (focus (first | exact DLes.refl _ | (repeat (first | exact DLes.nil | ((apply DLes.cons); (focus (first | exact DLe.refl _ | exact DLe.own _ _ | exact DLe.nil _ _ | exact DLe.any _))))))); (focus exact rfl); (all_goals (first | exact rfl | assumption | omega | (simp; omega) | (simp; done)))))); (all_goals exact rfl)) | exact IntWalk.i64_in _ (by omega) | exact IntWalk.u8_in _ (by omega) | exact IntWalk.u64_in _ (by omega) | exact IntWalk.i32_in _ (by omega) | exact rfl | exact ⟨by omega, rfl⟩ | exact ⟨rfl, rfl⟩ | assumption | exact ⟨by omega, by omega⟩ | exact ⟨by omega, by simp; omega⟩ | omega | exact ⟨rfl, rfl, by simp only [List.length_map, List.length_append, List.length_cons, List.length_nil]; omega⟩ | exact ⟨rfl, rfl, by simp; omega⟩ | exact ⟨rfl, rfl, by omega⟩ | exact ⟨rfl, by simp; omega⟩ | exact id | (intro h; simp [h]; done) | ((repeat (first | exact trivial | exact rfl | apply And.intro)); done) | (simp; omega) | (refine ⟨?_, ?_, ?_⟩ <;> first | omega | (simp; done) | (simp; omega)) | (simp_all; done))))
              | ((first | with_reducible apply DrawR.go0 | with_reducible apply KerB.mk); (focus kernel_rfl))
              | (first | with_reducible apply ends_ret | with_reducible apply ends_norm | with_reducible apply Halt'.mk)
              | ((with_reducible apply CondD.mk) <;> intro hb <;> (try simp only [SPLT] at hb) <;> (try first | contradiction | exact absurd hb (by assumption) | exact absurd (by assumption) hb | (exfalso; omega) | (exfalso; simp at hb; done))))
          all_goals (try exact (false : Bool))
          refine ⟨2, by omega, by omega, ?_⟩
          (conv => whnf)
          refine ⟨?_, by rfl⟩
          repeat' ((conv => whnf); first | exact DLes.nil | with_reducible exact DLe.refl _ | exact DLe.any _ | (exact dle_sl rfl) | with_reducible apply DLes.cons | exact DLe.refl _ | exact dle_int (by omega) | exact dle_nil rfl | exact DLe.own _ _)
        · repeat' (
            (conv => whnf)
            first
              | ((try ((first | with_reducible apply NumE.go | with_reducible apply IdxE.go | with_reducible apply TextE.go | with_reducible apply LookE.go | with_reducible apply CallE.go); (conv => whnf))); (with_reducible apply SideD.mk); (focus (first | exact idx_nat (by assumption) | exact idx_some (by omega) (by assumption) | exact idx_eq (by assumption) (by omega) | ((try apply givesl); (focus (((apply gives_go (grow_sem _ _)); (focus (first | exact DLes.refl _ | (repeat (first | exact DLes.nil | ((apply DLes.cons); (focus (first | exact DLe.refl _ | exact DLe.own _ _ | exact DLe.nil _ _ | exact DLe.any _))))))); (focus exact rfl); (all_goals (first | exact rfl | assumption | omega | (simp; omega) | (simp; done)))))); (all_goals exact rfl)) | exact IntWalk.i64_in _ (by omega) | exact IntWalk.u8_in _ (by omega) | exact IntWalk.u64_in _ (by omega) | exact IntWalk.i32_in _ (by omega) | exact rfl | exact ⟨by omega, rfl⟩ | exact ⟨rfl, rfl⟩ | assumption | exact ⟨by omega, by omega⟩ | exact ⟨by omega, by simp; omega⟩ | omega | exact ⟨rfl, rfl, by simp only [List.length_map, List.length_append, List.length_cons, List.length_nil]; omega⟩ | exact ⟨rfl, rfl, by simp; omega⟩ | exact ⟨rfl, rfl, by omega⟩ | exact ⟨rfl, by simp; omega⟩ | exact id | (intro h; simp [h]; done) | ((repeat (first | exact trivial | exact rfl | apply And.intro)); done) | (simp; omega) | (refine ⟨?_, ?_, ?_⟩ <;> first | omega | (simp; done) | (simp; omega)) | (simp_all; done))))
              | ((first | with_reducible apply DrawR.go0 | with_reducible apply KerB.mk); (focus kernel_rfl))
              | (first | with_reducible apply ends_ret | with_reducible apply ends_norm | with_reducible apply Halt'.mk)
              | ((with_reducible apply CondD.mk) <;> intro hb <;> (try simp only [SPLT] at hb) <;> (try first | contradiction | exact absurd hb (by assumption) | exact absurd (by assumption) hb | (exfalso; omega) | (exfalso; simp at hb; done))))
          all_goals (try exact (false : Bool))
          repeat' ((conv => whnf); first | exact trivial | with_reducible apply And.intro | with_reducible apply endsO_ret | with_reducible apply endsO_norm | exact DLes.nil | with_reducible exact DLe.refl _ | exact DLe.any _ | with_reducible apply DLes.cons | with_reducible exact rle_refl | exact rle_bool rfl | exact rle_int rfl | exact rle_nil rfl | exact rle_sl0 rfl)
          all_goals (conv => whnf)
          exact rle_refl
theorem secretFault_sem (s : List UInt8) (hs : s.length ≤ 9223372036854775807) : Sem Tryd.prog 7 [.sl 0 1 (s.map bR)] (.int .i64 (secretN s)) := by
  have ls : (s.map bR).length = s.length := List.length_map _
  refine sem_intro (M := fun t => mem t []) hT hM Tryd.func7 inferInstance rfl rfl rfl rfl rfl rfl ?_
  repeat' (
    (conv => whnf)
    first
      | ((try ((first | with_reducible apply NumE.go | with_reducible apply IdxE.go | with_reducible apply TextE.go | with_reducible apply LookE.go | with_reducible apply CallE.go); (conv => whnf))); (with_reducible apply SideD.mk); (focus (first | exact idx_nat (by assumption) | exact idx_some (by omega) (by assumption) | exact idx_eq (by assumption) (by omega) | ((try apply givesl); (focus (((apply gives_go (outside_sem _ _ _)); (focus (first | exact DLes.refl _ | (repeat (first | exact DLes.nil | ((apply DLes.cons); (focus (first | exact DLe.refl _ | exact DLe.own _ _ | exact DLe.nil _ _ | exact DLe.any _))))))); (focus exact rfl); (all_goals (first | exact rfl | assumption | omega | (simp; omega) | (simp; done)))))); (all_goals exact rfl)) | exact IntWalk.i64_in _ (by omega) | exact IntWalk.u8_in _ (by omega) | exact IntWalk.u64_in _ (by omega) | exact IntWalk.i32_in _ (by omega) | exact rfl | exact ⟨by omega, rfl⟩ | exact ⟨rfl, rfl⟩ | assumption | exact ⟨by omega, by omega⟩ | exact ⟨by omega, by simp; omega⟩ | omega | exact ⟨rfl, rfl, by simp only [List.length_map, List.length_append, List.length_cons, List.length_nil]; omega⟩ | exact ⟨rfl, rfl, by simp; omega⟩ | exact ⟨rfl, rfl, by omega⟩ | exact ⟨rfl, by simp; omega⟩ | exact id | (intro h; simp [h]; done) | ((repeat (first | exact trivial | exact rfl | apply And.intro)); done) | (simp; omega) | (refine ⟨?_, ?_, ?_⟩ <;> first | omega | (simp; done) | (simp; omega)) | (simp_all; done))))
      | ((first | with_reducible apply DrawR.go0 | with_reducible apply KerB.mk); (focus kernel_rfl))
      | (first | with_reducible apply ends_ret | with_reducible apply ends_norm | with_reducible apply Halt'.mk)
      | ((with_reducible apply CondD.mk) <;> intro hb <;> (try simp only [SPLT] at hb) <;> (try first | contradiction | exact absurd hb (by assumption) | exact absurd (by assumption) hb | (exfalso; omega) | (exfalso; simp at hb; done))))
  all_goals (try exact (false : Bool))
  · repeat' ((conv => whnf); first | exact trivial | with_reducible apply And.intro | with_reducible apply endsO_ret | with_reducible apply endsO_norm | exact DLes.nil | with_reducible exact DLe.refl _ | exact DLe.any _ | with_reducible apply DLes.cons | with_reducible exact rle_refl | exact rle_bool rfl | exact rle_int rfl | exact rle_nil rfl | exact rle_sl0 rfl)
    all_goals (conv => whnf)
    refine rle_int ?_
    unfold secretN
    rw [if_pos]
    simp only [Bool.or_eq_true, decide_eq_true_eq, ls] at hb ⊢
    omega
  · repeat' ((conv => whnf); first | exact trivial | with_reducible apply And.intro | with_reducible apply endsO_ret | with_reducible apply endsO_norm | exact DLes.nil | with_reducible exact DLe.refl _ | exact DLe.any _ | with_reducible apply DLes.cons | with_reducible exact rle_refl | exact rle_bool rfl | exact rle_int rfl | exact rle_nil rfl | exact rle_sl0 rfl)
    all_goals (conv => whnf)
    refine rle_int ?_
    unfold secretN
    rw [if_neg]
    simp only [Bool.or_eq_true, decide_eq_true_eq, ls] at hb ⊢
    omega
theorem seal_sem (s t : List UInt8) (hs : s.length ≤ 1000000) (ht : t.length ≤ 1000000) : Sem Tryd.prog 10 [.sl 0 1 (s.map bR), .str t] (.str (sealN s t)) := by
  have hd : (digestN (s ++ t)).length = 16 := digest_len _
  have hl : (s ++ t).length = s.length + t.length := List.length_append
  have hD := Digest_sem (s ++ t) (by omega)
  unfold sealN
  generalize digestN (s ++ t) = d at hd hD ⊢
  have hl2 : (s ++ d).length = s.length + 16 := by rw [List.length_append, hd]
  have hE := Digest_sem (s ++ d) (by omega)
  generalize digestN (s ++ d) = e at hE ⊢
  have hC := Concat_sem s t hs ht
  have hC2 := Concat_sem s d hs (by omega)
  refine sem_intro (M := fun t => mem t []) hT hM Tryd.func10 inferInstance rfl rfl rfl rfl rfl rfl ?_
  repeat' (
    (conv => whnf)
    first
      | ((try ((first | with_reducible apply NumE.go | with_reducible apply IdxE.go | with_reducible apply TextE.go | with_reducible apply LookE.go | with_reducible apply CallE.go); (conv => whnf))); (with_reducible apply SideD.mk); (focus (first | exact idx_nat (by assumption) | exact idx_some (by omega) (by assumption) | exact idx_eq (by assumption) (by omega) | ((try apply givesl); (focus (first | ((apply gives_go (hC)); (focus (first | exact DLes.refl _ | (repeat (first | exact DLes.nil | ((apply DLes.cons); (focus (first | exact DLe.refl _ | exact DLe.own _ _ | exact DLe.nil _ _ | exact DLe.any _))))))); (focus exact rfl); (all_goals (first | exact rfl | assumption | omega | (simp; omega) | (simp; done)))) | ((apply gives_go (hC2)); (focus (first | exact DLes.refl _ | (repeat (first | exact DLes.nil | ((apply DLes.cons); (focus (first | exact DLe.refl _ | exact DLe.own _ _ | exact DLe.nil _ _ | exact DLe.any _))))))); (focus exact rfl); (all_goals (first | exact rfl | assumption | omega | (simp; omega) | (simp; done)))) | ((apply gives_go (hD)); (focus (first | exact DLes.refl _ | (repeat (first | exact DLes.nil | ((apply DLes.cons); (focus (first | exact DLe.refl _ | exact DLe.own _ _ | exact DLe.nil _ _ | exact DLe.any _))))))); (focus exact rfl); (all_goals (first | exact rfl | assumption | omega | (simp; omega) | (simp; done)))) | ((apply gives_go (hE)); (focus (first | exact DLes.refl _ | (repeat (first | exact DLes.nil | ((apply DLes.cons); (focus (first | exact DLe.refl _ | exact DLe.own _ _ | exact DLe.nil _ _ | exact DLe.any _))))))); (focus exact rfl); (all_goals (first | exact rfl | assumption | omega | (simp; omega) | (simp; done)))) | ((first | apply gives_go (Concat_sem _ _ _ _) | apply gives_go (Digest_sem _ _)); (focus (first | exact DLes.refl _ | (repeat (first | exact DLes.nil | ((apply DLes.cons); (focus (first | exact DLe.refl _ | exact DLe.own _ _ | exact DLe.nil _ _ | exact DLe.any _))))))); (focus exact rfl); (all_goals (first | exact rfl | assumption | omega | (simp; omega) | (simp; done)))))); (all_goals exact rfl)) | exact IntWalk.i64_in _ (by omega) | exact IntWalk.u8_in _ (by omega) | exact IntWalk.u64_in _ (by omega) | exact IntWalk.i32_in _ (by omega) | exact rfl | exact ⟨by omega, rfl⟩ | exact ⟨rfl, rfl⟩ | assumption | exact ⟨by omega, by omega⟩ | exact ⟨by omega, by simp; omega⟩ | omega | exact ⟨rfl, rfl, by simp only [List.length_map, List.length_append, List.length_cons, List.length_nil]; omega⟩ | exact ⟨rfl, rfl, by simp; omega⟩ | exact ⟨rfl, rfl, by omega⟩ | exact ⟨rfl, by simp; omega⟩ | exact id | (intro h; simp [h]; done) | ((repeat (first | exact trivial | exact rfl | apply And.intro)); done) | (simp; omega) | (refine ⟨?_, ?_, ?_⟩ <;> first | omega | (simp; done) | (simp; omega)) | (simp_all; done))))
      | ((first | with_reducible apply DrawR.go0 | with_reducible apply KerB.mk); (focus kernel_rfl))
      | (first | with_reducible apply ends_ret | with_reducible apply ends_norm | with_reducible apply Halt'.mk)
      | ((with_reducible apply CondD.mk) <;> intro hb <;> (try simp only [SPLT] at hb) <;> (try first | contradiction | exact absurd hb (by assumption) | exact absurd (by assumption) hb | (exfalso; omega) | (exfalso; simp at hb; done))))
  all_goals (try exact (false : Bool))
  repeat' ((conv => whnf); first | exact trivial | with_reducible apply And.intro | with_reducible apply endsO_ret | with_reducible apply endsO_norm | exact DLes.nil | with_reducible exact DLe.refl _ | exact DLe.any _ | with_reducible apply DLes.cons | with_reducible exact rle_refl | exact rle_bool rfl | exact rle_int rfl | exact rle_nil rfl | exact rle_sl0 rfl)
  all_goals (conv => whnf)
end Go.Proofs.YtkjgmjocikmplaaDoor
namespace Go.Proofs.YtkjgmjocikmplaaDoor
set_option linter.unusedSimpArgs false
set_option linter.unusedVariables false
open Go.RowKit
set_option maxRecDepth 100000
set_option maxHeartbeats 1000000

theorem hexTxt_contains (c : UInt8) : hexTxt.contains c = hexByte c := by
  have : ∀ n : Fin 256, hexTxt.contains (UInt8.ofNat n.val) = hexByte (UInt8.ofNat n.val) := by decide +kernel
  have h := this ⟨c.toNat, c.toNat_lt⟩
  simpa using h
theorem trim_hex (s : Str) : (Lib.trimS s hexTxt == []) = s.all hexByte := by
  have h1 := trimS_nil_iff s hexTxt
  have h2 : s.all (hexTxt.contains ·) = s.all hexByte := by
    congr 1
    exact funext hexTxt_contains
  rw [h2] at h1
  rw [Bool.eq_iff_iff, beq_iff_eq, h1]
theorem isDigest_sem (s : Str) (hs : s.Ok) : Sem Tryd.prog 13 [.str s] (.bool (isDig s)) := by
  unfold Str.Ok at hs
  have e := trim_hex s
  refine sem_intro (M := fun t => mem t []) hT hM Tryd.func13 inferInstance rfl rfl rfl rfl rfl rfl ?_
  repeat' (
    (conv => whnf)
    first
      | ((try ((first | with_reducible apply NumE.go | with_reducible apply IdxE.go | with_reducible apply TextE.go | with_reducible apply LookE.go | with_reducible apply CallE.go); (conv => whnf))); (with_reducible apply SideD.mk); (focus ((first | (intro hc; have hc0 := hc; (try simp only [SPLT] at hc); (try refine And.intro (by first | exact hc0 | exact ⟨hc0, hc0⟩ | exact ⟨hc0, hc0, hc0⟩) ?_)) | skip); first | exact idx_nat (by assumption) | exact idx_some (by omega) (by assumption) | exact idx_eq (by assumption) (by omega) | ((try apply givesl); (focus (((apply gives_go (trim_sem s hexTxt hs (by decide) (by decide))); (focus (first | exact DLes.refl _ | (repeat (first | exact DLes.nil | ((apply DLes.cons); (focus (first | exact DLe.refl _ | exact DLe.own _ _ | exact DLe.nil _ _ | exact DLe.any _))))))); (focus exact rfl); (all_goals (first | exact rfl | assumption | omega | (simp; omega) | (simp; done)))))); (all_goals exact rfl)) | exact IntWalk.i64_in _ (by omega) | exact IntWalk.u8_in _ (by omega) | exact IntWalk.u64_in _ (by omega) | exact IntWalk.i32_in _ (by omega) | exact rfl | exact ⟨by omega, rfl⟩ | exact ⟨rfl, rfl⟩ | assumption | exact ⟨by omega, by omega⟩ | exact ⟨by omega, by simp; omega⟩ | omega | exact ⟨rfl, rfl, by simp only [List.length_map, List.length_append, List.length_cons, List.length_nil]; omega⟩ | exact ⟨rfl, rfl, by simp; omega⟩ | exact ⟨rfl, rfl, by omega⟩ | exact ⟨rfl, by simp; omega⟩ | exact id | (intro h; simp [h]; done) | ((repeat (first | exact trivial | exact rfl | apply And.intro)); done) | (simp; omega) | (refine ⟨?_, ?_, ?_⟩ <;> first | omega | (simp; done) | (simp; omega)) | exact hc0 | exact ⟨hc0, hc0⟩ | exact ⟨hc0, hc0, hc0⟩ | (simp only [Bool.and_eq_true] at hc0; simp [hc0]; done) | (simp_all; done))))
      | ((first | with_reducible apply DrawR.go0 | with_reducible apply KerB.mk); (focus kernel_rfl))
      | (first | with_reducible apply ends_ret | with_reducible apply ends_norm | with_reducible apply Halt'.mk)
      | ((with_reducible apply CondD.mk) <;> intro hb <;> (try simp only [SPLT] at hb) <;> (try first | contradiction | exact absurd hb (by assumption) | exact absurd (by assumption) hb | (exfalso; omega) | (exfalso; simp at hb; done))))
  all_goals (try exact (false : Bool))
  repeat' ((conv => whnf); first | exact trivial | with_reducible apply And.intro | with_reducible apply endsO_ret | with_reducible apply endsO_norm | exact DLes.nil | with_reducible exact DLe.refl _ | exact DLe.any _ | with_reducible apply DLes.cons | with_reducible exact rle_refl | exact rle_bool rfl | exact rle_int rfl | exact rle_nil rfl | exact rle_sl0 rfl)
  all_goals (conv => whnf)
  refine rle_bool ?_
  unfold isDig
  rw [← e, Bool.eq_iff_iff]
  simp
  omega
theorem isMoment_sem (n : Int) : Sem Tryd.prog 16 [.int .i64 n] (.bool (!(decide (n < 0) || decide (1000000000000000 < n)))) := by
  refine sem_intro (M := fun t => mem t []) hT hM Tryd.func16 inferInstance rfl rfl rfl rfl rfl rfl ?_
  repeat' (
    (conv => whnf)
    first
      | ((try ((first | with_reducible apply NumE.go | with_reducible apply IdxE.go | with_reducible apply TextE.go | with_reducible apply LookE.go | with_reducible apply CallE.go); (conv => whnf))); (with_reducible apply SideD.mk); (focus (first | exact idx_nat (by assumption) | exact idx_some (by omega) (by assumption) | exact idx_eq (by assumption) (by omega) | ((try apply givesl); (focus (((apply gives_go (outside_sem _ _ _)); (focus (first | exact DLes.refl _ | (repeat (first | exact DLes.nil | ((apply DLes.cons); (focus (first | exact DLe.refl _ | exact DLe.own _ _ | exact DLe.nil _ _ | exact DLe.any _))))))); (focus exact rfl); (all_goals (first | exact rfl | assumption | omega | (simp; omega) | (simp; done)))))); (all_goals exact rfl)) | exact IntWalk.i64_in _ (by omega) | exact IntWalk.u8_in _ (by omega) | exact IntWalk.u64_in _ (by omega) | exact IntWalk.i32_in _ (by omega) | exact rfl | exact ⟨by omega, rfl⟩ | exact ⟨rfl, rfl⟩ | assumption | exact ⟨by omega, by omega⟩ | exact ⟨by omega, by simp; omega⟩ | omega | exact ⟨rfl, rfl, by simp only [List.length_map, List.length_append, List.length_cons, List.length_nil]; omega⟩ | exact ⟨rfl, rfl, by simp; omega⟩ | exact ⟨rfl, rfl, by omega⟩ | exact ⟨rfl, by simp; omega⟩ | exact id | (intro h; simp [h]; done) | ((repeat (first | exact trivial | exact rfl | apply And.intro)); done) | (simp; omega) | (refine ⟨?_, ?_, ?_⟩ <;> first | omega | (simp; done) | (simp; omega)) | (simp_all; done))))
      | ((first | with_reducible apply DrawR.go0 | with_reducible apply KerB.mk); (focus kernel_rfl))
      | (first | with_reducible apply ends_ret | with_reducible apply ends_norm | with_reducible apply Halt'.mk)
      | ((with_reducible apply CondD.mk) <;> intro hb <;> (try simp only [SPLT] at hb) <;> (try first | contradiction | exact absurd hb (by assumption) | exact absurd (by assumption) hb | (exfalso; omega) | (exfalso; simp at hb; done))))
  all_goals (try exact (false : Bool))
  repeat' ((conv => whnf); first | exact trivial | with_reducible apply And.intro | with_reducible apply endsO_ret | with_reducible apply endsO_norm | exact DLes.nil | with_reducible exact DLe.refl _ | exact DLe.any _ | with_reducible apply DLes.cons | with_reducible exact rle_refl | exact rle_bool rfl | exact rle_int rfl | exact rle_nil rfl | exact rle_sl0 rfl)
  all_goals (conv => whnf)
end Go.Proofs.YtkjgmjocikmplaaDoor
namespace Go.Proofs.YtkjgmjocikmplaaDoor
set_option linter.unusedSimpArgs false
set_option linter.unusedVariables false
open Go.RowKit
set_option maxRecDepth 100000
set_option maxHeartbeats 1000000

structure Prf.Ok (r : Prf) : Prop where
  digest : r.digest.length ≤ 9223372036854775807
  number : -9223372036854775808 ≤ r.number ∧ r.number ≤ 9223372036854775807
  time : -9223372036854775808 ≤ r.time ∧ r.time ≤ 9223372036854775807
theorem receiptFault_sem (r : Prf) (hr : r.Ok) : Sem Tryd.prog 8 [r.d] (.int .i64 (proofN r)) := by
  have hD := isDigest_sem r.digest hr.digest
  unfold proofN
  generalize isDig r.digest = b at hD ⊢
  cases b
  · refine sem_intro (M := fun t => mem t []) hT hM Tryd.func8 inferInstance rfl rfl rfl rfl rfl rfl ?_
    repeat' (
      (conv => whnf)
      first
        | ((try ((first | with_reducible apply NumE.go | with_reducible apply IdxE.go | with_reducible apply TextE.go | with_reducible apply LookE.go | with_reducible apply CallE.go); (conv => whnf))); (with_reducible apply SideD.mk); (focus (first | exact idx_nat (by assumption) | exact idx_some (by omega) (by assumption) | exact idx_eq (by assumption) (by omega) | ((try apply givesl); (focus (first | ((apply gives_go (hD)); (focus (first | exact DLes.refl _ | (repeat (first | exact DLes.nil | ((apply DLes.cons); (focus (first | exact DLe.refl _ | exact DLe.own _ _ | exact DLe.nil _ _ | exact DLe.any _))))))); (focus exact rfl); (all_goals (first | exact rfl | assumption | omega | (simp; omega) | (simp; done)))) | ((first | apply gives_go (outside_sem _ _ _) | apply gives_go (isDigest_sem _ _) | apply gives_go (isMoment_sem _)); (focus (first | exact DLes.refl _ | (repeat (first | exact DLes.nil | ((apply DLes.cons); (focus (first | exact DLe.refl _ | exact DLe.own _ _ | exact DLe.nil _ _ | exact DLe.any _))))))); (focus exact rfl); (all_goals (first | exact rfl | assumption | omega | (simp; omega) | (simp; done)))))); (all_goals exact rfl)) | exact IntWalk.i64_in _ (by omega) | exact IntWalk.u8_in _ (by omega) | exact IntWalk.u64_in _ (by omega) | exact IntWalk.i32_in _ (by omega) | exact rfl | exact ⟨by omega, rfl⟩ | exact ⟨rfl, rfl⟩ | assumption | exact ⟨by omega, by omega⟩ | exact ⟨by omega, by simp; omega⟩ | omega | exact ⟨rfl, rfl, by simp only [List.length_map, List.length_append, List.length_cons, List.length_nil]; omega⟩ | exact ⟨rfl, rfl, by simp; omega⟩ | exact ⟨rfl, rfl, by omega⟩ | exact ⟨rfl, by simp; omega⟩ | exact id | (intro h; simp [h]; done) | ((repeat (first | exact trivial | exact rfl | apply And.intro)); done) | (simp; omega) | (refine ⟨?_, ?_, ?_⟩ <;> first | omega | (simp; done) | (simp; omega)) | (simp_all; done))))
        | ((first | with_reducible apply DrawR.go0 | with_reducible apply KerB.mk); (focus kernel_rfl))
        | (first | with_reducible apply ends_ret | with_reducible apply ends_norm | with_reducible apply Halt'.mk)
        | ((with_reducible apply CondD.mk) <;> intro hb <;> (try simp only [SPLT] at hb) <;> (try first | contradiction | exact absurd hb (by assumption) | exact absurd (by assumption) hb | (exfalso; omega) | (exfalso; simp at hb; done))))
    all_goals (try exact (false : Bool))
    repeat' ((conv => whnf); first | exact trivial | with_reducible apply And.intro | with_reducible apply endsO_ret | with_reducible apply endsO_norm | exact DLes.nil | with_reducible exact DLe.refl _ | exact DLe.any _ | with_reducible apply DLes.cons | with_reducible exact rle_refl | exact rle_bool rfl | exact rle_int rfl | exact rle_nil rfl | exact rle_sl0 rfl)
    all_goals (conv => whnf)
    all_goals (refine rle_int ?_; simp_all <;> (repeat' split) <;> omega)
  · refine sem_intro (M := fun t => mem t []) hT hM Tryd.func8 inferInstance rfl rfl rfl rfl rfl rfl ?_
    repeat' (
      (conv => whnf)
      first
        | ((try ((first | with_reducible apply NumE.go | with_reducible apply IdxE.go | with_reducible apply TextE.go | with_reducible apply LookE.go | with_reducible apply CallE.go); (conv => whnf))); (with_reducible apply SideD.mk); (focus (first | exact idx_nat (by assumption) | exact idx_some (by omega) (by assumption) | exact idx_eq (by assumption) (by omega) | ((try apply givesl); (focus (first | ((apply gives_go (hD)); (focus (first | exact DLes.refl _ | (repeat (first | exact DLes.nil | ((apply DLes.cons); (focus (first | exact DLe.refl _ | exact DLe.own _ _ | exact DLe.nil _ _ | exact DLe.any _))))))); (focus exact rfl); (all_goals (first | exact rfl | assumption | omega | (simp; omega) | (simp; done)))) | ((first | apply gives_go (outside_sem _ _ _) | apply gives_go (isDigest_sem _ _) | apply gives_go (isMoment_sem _)); (focus (first | exact DLes.refl _ | (repeat (first | exact DLes.nil | ((apply DLes.cons); (focus (first | exact DLe.refl _ | exact DLe.own _ _ | exact DLe.nil _ _ | exact DLe.any _))))))); (focus exact rfl); (all_goals (first | exact rfl | assumption | omega | (simp; omega) | (simp; done)))))); (all_goals exact rfl)) | exact IntWalk.i64_in _ (by omega) | exact IntWalk.u8_in _ (by omega) | exact IntWalk.u64_in _ (by omega) | exact IntWalk.i32_in _ (by omega) | exact rfl | exact ⟨by omega, rfl⟩ | exact ⟨rfl, rfl⟩ | assumption | exact ⟨by omega, by omega⟩ | exact ⟨by omega, by simp; omega⟩ | omega | exact ⟨rfl, rfl, by simp only [List.length_map, List.length_append, List.length_cons, List.length_nil]; omega⟩ | exact ⟨rfl, rfl, by simp; omega⟩ | exact ⟨rfl, rfl, by omega⟩ | exact ⟨rfl, by simp; omega⟩ | exact id | (intro h; simp [h]; done) | ((repeat (first | exact trivial | exact rfl | apply And.intro)); done) | (simp; omega) | (refine ⟨?_, ?_, ?_⟩ <;> first | omega | (simp; done) | (simp; omega)) | (simp_all; done))))
        | ((first | with_reducible apply DrawR.go0 | with_reducible apply KerB.mk); (focus kernel_rfl))
        | (first | with_reducible apply ends_ret | with_reducible apply ends_norm | with_reducible apply Halt'.mk)
        | ((with_reducible apply CondD.mk) <;> intro hb <;> (try simp only [SPLT] at hb) <;> (try first | contradiction | exact absurd hb (by assumption) | exact absurd (by assumption) hb | (exfalso; omega) | (exfalso; simp at hb; done))))
    all_goals (try exact (false : Bool))
    repeat' ((conv => whnf); first | exact trivial | with_reducible apply And.intro | with_reducible apply endsO_ret | with_reducible apply endsO_norm | exact DLes.nil | with_reducible exact DLe.refl _ | exact DLe.any _ | with_reducible apply DLes.cons | with_reducible exact rle_refl | exact rle_bool rfl | exact rle_int rfl | exact rle_nil rfl | exact rle_sl0 rfl)
    all_goals (conv => whnf)
    all_goals (refine rle_int ?_; simp_all <;> (repeat' split) <;> omega)
theorem itoa_len' (n : Int) (h0 : 0 ≤ n) (h : n ≤ 1000000000000000) : (Lib.itoa n).length ≤ 17 := itoa_len n h0 (by omega)
theorem receipt_sem (r : Prf) (h : proofN r = 0) : Sem Tryd.prog 9 [r.d] (.str (receiptN r)) := by
  have hp := proofN_ok h
  have l1 := itoa_len' r.number hp.1 (by omega)
  have l2 := itoa_len' r.time hp.2.2.1 (by omega)
  have l3 := hp.2.2.2.2
  have hI := itoa_sem r.number hp.1 (by omega)
  have hJ := itoa_sem r.time hp.2.2.1 (by omega)
  unfold receiptN
  generalize Lib.itoa r.number = a at l1 hI ⊢
  generalize Lib.itoa r.time = b at l2 hJ ⊢
  refine sem_intro (M := fun t => mem t []) hT hM Tryd.func9 inferInstance rfl rfl rfl rfl rfl rfl ?_
  repeat' (
    (conv => whnf)
    first
      | ((try ((first | with_reducible apply NumE.go | with_reducible apply IdxE.go | with_reducible apply TextE.go | with_reducible apply LookE.go | with_reducible apply CallE.go); (conv => whnf))); (with_reducible apply SideD.mk); (focus (first | exact idx_nat (by assumption) | exact idx_some (by omega) (by assumption) | exact idx_eq (by assumption) (by omega) | ((try apply givesl); (focus (first | ((apply gives_go (hI)); (focus (first | exact DLes.refl _ | (repeat (first | exact DLes.nil | ((apply DLes.cons); (focus (first | exact DLe.refl _ | exact DLe.own _ _ | exact DLe.nil _ _ | exact DLe.any _))))))); (focus exact rfl); (all_goals (first | exact rfl | assumption | omega | (simp; omega) | (simp; done)))) | ((apply gives_go (hJ)); (focus (first | exact DLes.refl _ | (repeat (first | exact DLes.nil | ((apply DLes.cons); (focus (first | exact DLe.refl _ | exact DLe.own _ _ | exact DLe.nil _ _ | exact DLe.any _))))))); (focus exact rfl); (all_goals (first | exact rfl | assumption | omega | (simp; omega) | (simp; done)))) | ((apply gives_go (itoa_sem _ _ _)); (focus (first | exact DLes.refl _ | (repeat (first | exact DLes.nil | ((apply DLes.cons); (focus (first | exact DLe.refl _ | exact DLe.own _ _ | exact DLe.nil _ _ | exact DLe.any _))))))); (focus exact rfl); (all_goals (first | exact rfl | assumption | omega | (simp; omega) | (simp; done)))))); (all_goals exact rfl)) | exact IntWalk.i64_in _ (by omega) | exact IntWalk.u8_in _ (by omega) | exact IntWalk.u64_in _ (by omega) | exact IntWalk.i32_in _ (by omega) | exact rfl | exact ⟨by omega, rfl⟩ | exact ⟨rfl, rfl⟩ | assumption | exact ⟨by omega, by omega⟩ | exact ⟨by omega, by simp; omega⟩ | omega | exact ⟨rfl, rfl, by simp only [List.length_map, List.length_append, List.length_cons, List.length_nil]; omega⟩ | exact ⟨rfl, rfl, by simp; omega⟩ | exact ⟨rfl, rfl, by omega⟩ | exact ⟨rfl, by simp; omega⟩ | exact id | (intro h; simp [h]; done) | ((repeat (first | exact trivial | exact rfl | apply And.intro)); done) | (simp; omega) | (refine ⟨?_, ?_, ?_⟩ <;> first | omega | (simp; done) | (simp; omega)) | (simp_all; done))))
      | ((first | with_reducible apply DrawR.go0 | with_reducible apply KerB.mk); (focus kernel_rfl))
      | (first | with_reducible apply ends_ret | with_reducible apply ends_norm | with_reducible apply Halt'.mk)
      | ((with_reducible apply CondD.mk) <;> intro hb <;> (try simp only [SPLT] at hb) <;> (try first | contradiction | exact absurd hb (by assumption) | exact absurd (by assumption) hb | (exfalso; omega) | (exfalso; simp at hb; done))))
  all_goals (try exact (false : Bool))
  repeat' ((conv => whnf); first | exact trivial | with_reducible apply And.intro | with_reducible apply endsO_ret | with_reducible apply endsO_norm | exact DLes.nil | with_reducible exact DLe.refl _ | exact DLe.any _ | with_reducible apply DLes.cons | with_reducible exact rle_refl | exact rle_bool rfl | exact rle_int rfl | exact rle_nil rfl | exact rle_sl0 rfl)
  all_goals (conv => whnf)
theorem receiptN_len {r : Prf} (h : proofN r = 0) : (receiptN r).length ≤ 100 := by
  have hp := proofN_ok h
  have l1 := itoa_len' r.number hp.1 (by omega)
  have l2 := itoa_len' r.time hp.2.2.1 (by omega)
  unfold receiptN
  simp only [List.length_append, List.length_cons, List.length_nil]
  omega
theorem sealN_len (s t : List UInt8) : (sealN s t).length = 16 := digest_len _
theorem ReceiptText_sem (s : List UInt8) (r : Prf) (hs : s.length ≤ 9223372036854775807) (hr : r.Ok) : Sem Tryd.prog 4 [.sl 0 1 (s.map bR), r.d] (.tup [.str (textN s r).1, .int .i64 (textN s r).2]) := by
  have hN := secretN_bd s
  have hF := secretFault_sem s hs
  have hG := receiptFault_sem r hr
  unfold textN
  generalize secretN s = n at hN hF ⊢
  by_cases h0 : n = 0
  · rw [if_neg (by simpa using h0)]
    by_cases h1 : proofN r = 0
    · have hR := receipt_sem r h1
      have hl := receiptN_len h1
      have hS := seal_sem s (receiptN r) (by omega) (by omega)
      have hls := sealN_len s (receiptN r)
      rw [if_neg (by simpa using h1)]
      generalize proofN r = m at h1 hG
      generalize sealN s (receiptN r) = e at hS hls ⊢
      generalize receiptN r = t at hR hl hS ⊢
      refine sem_intro (M := fun t => mem t []) hT hM Tryd.func4 inferInstance rfl rfl rfl rfl rfl rfl ?_
      repeat' (
        (conv => whnf)
        first
          | ((try ((first | with_reducible apply NumE.go | with_reducible apply IdxE.go | with_reducible apply TextE.go | with_reducible apply LookE.go | with_reducible apply CallE.go); (conv => whnf))); (with_reducible apply SideD.mk); (focus (first | exact idx_nat (by assumption) | exact idx_some (by omega) (by assumption) | exact idx_eq (by assumption) (by omega) | ((try apply givesl); (focus (first | ((apply gives_go (hF)); (focus (first | exact DLes.refl _ | (repeat (first | exact DLes.nil | ((apply DLes.cons); (focus (first | exact DLe.refl _ | exact DLe.own _ _ | exact DLe.nil _ _ | exact DLe.any _))))))); (focus exact rfl); (all_goals (first | exact rfl | assumption | omega | (simp; omega) | (simp; done)))) | ((apply gives_go (hG)); (focus (first | exact DLes.refl _ | (repeat (first | exact DLes.nil | ((apply DLes.cons); (focus (first | exact DLe.refl _ | exact DLe.own _ _ | exact DLe.nil _ _ | exact DLe.any _))))))); (focus exact rfl); (all_goals (first | exact rfl | assumption | omega | (simp; omega) | (simp; done)))) | ((apply gives_go (hR)); (focus (first | exact DLes.refl _ | (repeat (first | exact DLes.nil | ((apply DLes.cons); (focus (first | exact DLe.refl _ | exact DLe.own _ _ | exact DLe.nil _ _ | exact DLe.any _))))))); (focus exact rfl); (all_goals (first | exact rfl | assumption | omega | (simp; omega) | (simp; done)))) | ((apply gives_go (hS)); (focus (first | exact DLes.refl _ | (repeat (first | exact DLes.nil | ((apply DLes.cons); (focus (first | exact DLe.refl _ | exact DLe.own _ _ | exact DLe.nil _ _ | exact DLe.any _))))))); (focus exact rfl); (all_goals (first | exact rfl | assumption | omega | (simp; omega) | (simp; done)))) | ((first | apply gives_go (secretFault_sem _ _) | apply gives_go (receiptFault_sem _ _) | apply gives_go (receipt_sem _ _) | apply gives_go (seal_sem _ _ _ _)); (focus (first | exact DLes.refl _ | (repeat (first | exact DLes.nil | ((apply DLes.cons); (focus (first | exact DLe.refl _ | exact DLe.own _ _ | exact DLe.nil _ _ | exact DLe.any _))))))); (focus exact rfl); (all_goals (first | exact rfl | assumption | omega | (simp; omega) | (simp; done)))))); (all_goals exact rfl)) | exact IntWalk.i64_in _ (by omega) | exact IntWalk.u8_in _ (by omega) | exact IntWalk.u64_in _ (by omega) | exact IntWalk.i32_in _ (by omega) | exact rfl | exact ⟨by omega, rfl⟩ | exact ⟨rfl, rfl⟩ | assumption | exact ⟨by omega, by omega⟩ | exact ⟨by omega, by simp; omega⟩ | omega | exact ⟨rfl, rfl, by simp only [List.length_map, List.length_append, List.length_cons, List.length_nil]; omega⟩ | exact ⟨rfl, rfl, by simp; omega⟩ | exact ⟨rfl, rfl, by omega⟩ | exact ⟨rfl, by simp; omega⟩ | exact id | (intro h; simp [h]; done) | ((repeat (first | exact trivial | exact rfl | apply And.intro)); done) | (simp; omega) | (refine ⟨?_, ?_, ?_⟩ <;> first | omega | (simp; done) | (simp; omega)) | (simp_all; done))))
          | ((first | with_reducible apply DrawR.go0 | with_reducible apply KerB.mk); (focus kernel_rfl))
          | (first | with_reducible apply ends_ret | with_reducible apply ends_norm | with_reducible apply Halt'.mk)
          | ((with_reducible apply CondD.mk) <;> intro hb <;> (try simp only [SPLT] at hb) <;> (try first | contradiction | exact absurd hb (by assumption) | exact absurd (by assumption) hb | (exfalso; omega) | (exfalso; simp at hb; done))))
      all_goals (try exact (false : Bool))
      repeat' ((conv => whnf); first | exact trivial | with_reducible apply And.intro | with_reducible apply endsO_ret | with_reducible apply endsO_norm | exact DLes.nil | with_reducible exact DLe.refl _ | exact DLe.any _ | with_reducible apply DLes.cons | with_reducible exact rle_refl | exact rle_bool rfl | exact rle_int rfl | exact rle_nil rfl | exact rle_sl0 rfl)
      all_goals (conv => whnf)
    · rw [if_pos h1]
      generalize proofN r = m at h1 hG ⊢
      refine sem_intro (M := fun t => mem t []) hT hM Tryd.func4 inferInstance rfl rfl rfl rfl rfl rfl ?_
      repeat' (
        (conv => whnf)
        first
          | ((try ((first | with_reducible apply NumE.go | with_reducible apply IdxE.go | with_reducible apply TextE.go | with_reducible apply LookE.go | with_reducible apply CallE.go); (conv => whnf))); (with_reducible apply SideD.mk); (focus (first | exact idx_nat (by assumption) | exact idx_some (by omega) (by assumption) | exact idx_eq (by assumption) (by omega) | ((try apply givesl); (focus (first | ((apply gives_go (hF)); (focus (first | exact DLes.refl _ | (repeat (first | exact DLes.nil | ((apply DLes.cons); (focus (first | exact DLe.refl _ | exact DLe.own _ _ | exact DLe.nil _ _ | exact DLe.any _))))))); (focus exact rfl); (all_goals (first | exact rfl | assumption | omega | (simp; omega) | (simp; done)))) | ((apply gives_go (hG)); (focus (first | exact DLes.refl _ | (repeat (first | exact DLes.nil | ((apply DLes.cons); (focus (first | exact DLe.refl _ | exact DLe.own _ _ | exact DLe.nil _ _ | exact DLe.any _))))))); (focus exact rfl); (all_goals (first | exact rfl | assumption | omega | (simp; omega) | (simp; done)))) | ((first | apply gives_go (secretFault_sem _ _) | apply gives_go (receiptFault_sem _ _) | apply gives_go (receipt_sem _ _) | apply gives_go (seal_sem _ _ _ _)); (focus (first | exact DLes.refl _ | (repeat (first | exact DLes.nil | ((apply DLes.cons); (focus (first | exact DLe.refl _ | exact DLe.own _ _ | exact DLe.nil _ _ | exact DLe.any _))))))); (focus exact rfl); (all_goals (first | exact rfl | assumption | omega | (simp; omega) | (simp; done)))))); (all_goals exact rfl)) | exact IntWalk.i64_in _ (by omega) | exact IntWalk.u8_in _ (by omega) | exact IntWalk.u64_in _ (by omega) | exact IntWalk.i32_in _ (by omega) | exact rfl | exact ⟨by omega, rfl⟩ | exact ⟨rfl, rfl⟩ | assumption | exact ⟨by omega, by omega⟩ | exact ⟨by omega, by simp; omega⟩ | omega | exact ⟨rfl, rfl, by simp only [List.length_map, List.length_append, List.length_cons, List.length_nil]; omega⟩ | exact ⟨rfl, rfl, by simp; omega⟩ | exact ⟨rfl, rfl, by omega⟩ | exact ⟨rfl, by simp; omega⟩ | exact id | (intro h; simp [h]; done) | ((repeat (first | exact trivial | exact rfl | apply And.intro)); done) | (simp; omega) | (refine ⟨?_, ?_, ?_⟩ <;> first | omega | (simp; done) | (simp; omega)) | (simp_all; done))))
          | ((first | with_reducible apply DrawR.go0 | with_reducible apply KerB.mk); (focus kernel_rfl))
          | (first | with_reducible apply ends_ret | with_reducible apply ends_norm | with_reducible apply Halt'.mk)
          | ((with_reducible apply CondD.mk) <;> intro hb <;> (try simp only [SPLT] at hb) <;> (try first | contradiction | exact absurd hb (by assumption) | exact absurd (by assumption) hb | (exfalso; omega) | (exfalso; simp at hb; done))))
      all_goals (try exact (false : Bool))
      repeat' ((conv => whnf); first | exact trivial | with_reducible apply And.intro | with_reducible apply endsO_ret | with_reducible apply endsO_norm | exact DLes.nil | with_reducible exact DLe.refl _ | exact DLe.any _ | with_reducible apply DLes.cons | with_reducible exact rle_refl | exact rle_bool rfl | exact rle_int rfl | exact rle_nil rfl | exact rle_sl0 rfl)
      all_goals (conv => whnf)
  · rw [if_pos h0]
    refine sem_intro (M := fun t => mem t []) hT hM Tryd.func4 inferInstance rfl rfl rfl rfl rfl rfl ?_
    repeat' (
      (conv => whnf)
      first
        | ((try ((first | with_reducible apply NumE.go | with_reducible apply IdxE.go | with_reducible apply TextE.go | with_reducible apply LookE.go | with_reducible apply CallE.go); (conv => whnf))); (with_reducible apply SideD.mk); (focus (first | exact idx_nat (by assumption) | exact idx_some (by omega) (by assumption) | exact idx_eq (by assumption) (by omega) | ((try apply givesl); (focus (first | ((apply gives_go (hF)); (focus (first | exact DLes.refl _ | (repeat (first | exact DLes.nil | ((apply DLes.cons); (focus (first | exact DLe.refl _ | exact DLe.own _ _ | exact DLe.nil _ _ | exact DLe.any _))))))); (focus exact rfl); (all_goals (first | exact rfl | assumption | omega | (simp; omega) | (simp; done)))) | ((first | apply gives_go (secretFault_sem _ _) | apply gives_go (receiptFault_sem _ _) | apply gives_go (receipt_sem _ _) | apply gives_go (seal_sem _ _ _ _)); (focus (first | exact DLes.refl _ | (repeat (first | exact DLes.nil | ((apply DLes.cons); (focus (first | exact DLe.refl _ | exact DLe.own _ _ | exact DLe.nil _ _ | exact DLe.any _))))))); (focus exact rfl); (all_goals (first | exact rfl | assumption | omega | (simp; omega) | (simp; done)))))); (all_goals exact rfl)) | exact IntWalk.i64_in _ (by omega) | exact IntWalk.u8_in _ (by omega) | exact IntWalk.u64_in _ (by omega) | exact IntWalk.i32_in _ (by omega) | exact rfl | exact ⟨by omega, rfl⟩ | exact ⟨rfl, rfl⟩ | assumption | exact ⟨by omega, by omega⟩ | exact ⟨by omega, by simp; omega⟩ | omega | exact ⟨rfl, rfl, by simp only [List.length_map, List.length_append, List.length_cons, List.length_nil]; omega⟩ | exact ⟨rfl, rfl, by simp; omega⟩ | exact ⟨rfl, rfl, by omega⟩ | exact ⟨rfl, by simp; omega⟩ | exact id | (intro h; simp [h]; done) | ((repeat (first | exact trivial | exact rfl | apply And.intro)); done) | (simp; omega) | (refine ⟨?_, ?_, ?_⟩ <;> first | omega | (simp; done) | (simp; omega)) | (simp_all; done))))
        | ((first | with_reducible apply DrawR.go0 | with_reducible apply KerB.mk); (focus kernel_rfl))
        | (first | with_reducible apply ends_ret | with_reducible apply ends_norm | with_reducible apply Halt'.mk)
        | ((with_reducible apply CondD.mk) <;> intro hb <;> (try simp only [SPLT] at hb) <;> (try first | contradiction | exact absurd hb (by assumption) | exact absurd (by assumption) hb | (exfalso; omega) | (exfalso; simp at hb; done))))
    all_goals (try exact (false : Bool))
    repeat' ((conv => whnf); first | exact trivial | with_reducible apply And.intro | with_reducible apply endsO_ret | with_reducible apply endsO_norm | exact DLes.nil | with_reducible exact DLe.refl _ | exact DLe.any _ | with_reducible apply DLes.cons | with_reducible exact rle_refl | exact rle_bool rfl | exact rle_int rfl | exact rle_nil rfl | exact rle_sl0 rfl)
    all_goals (conv => whnf)
end Go.Proofs.YtkjgmjocikmplaaDoor
namespace Go.Proofs.YtkjgmjocikmplaaDoor
set_option linter.unusedSimpArgs false
set_option linter.unusedVariables false
open Go.RowKit
set_option maxRecDepth 100000
set_option maxHeartbeats 1000000

theorem inDigits_sem (s : Str) (hs : s.Ok) : Sem Tryd.prog 38 [.str s, .int .u8 48, .int .u8 57] (.bool (s.all digByte)) := by
  unfold Str.Ok at hs
  refine sem_intro (M := fun t => mem t []) hT hM Tryd.func38 inferInstance rfl rfl rfl rfl rfl rfl ?_
  repeat' (
    (conv => whnf)
    first
      | ((try ((first | with_reducible apply NumE.go | with_reducible apply IdxE.go | with_reducible apply TextE.go | with_reducible apply LookE.go | with_reducible apply CallE.go); (conv => whnf))); (with_reducible apply SideD.mk); (focus ((first | (intro hc; have hc0 := hc; (try simp only [SPLT] at hc); (try refine And.intro (by first | exact hc0 | exact ⟨hc0, hc0⟩ | exact ⟨hc0, hc0, hc0⟩) ?_)) | skip); first | exact idx_nat (by assumption) | exact idx_some (by omega) (by assumption) | exact idx_eq (by assumption) (by omega) | exact IntWalk.i64_in _ (by omega) | exact IntWalk.u8_in _ (by omega) | exact IntWalk.u64_in _ (by omega) | exact IntWalk.i32_in _ (by omega) | exact rfl | exact ⟨by omega, rfl⟩ | exact ⟨rfl, rfl⟩ | assumption | exact ⟨by omega, by omega⟩ | exact ⟨by omega, by simp; omega⟩ | omega | exact ⟨rfl, rfl, by simp only [List.length_map, List.length_append, List.length_cons, List.length_nil]; omega⟩ | exact ⟨rfl, rfl, by simp; omega⟩ | exact ⟨rfl, rfl, by omega⟩ | exact ⟨rfl, by simp; omega⟩ | exact id | (intro h; simp [h]; done) | ((repeat (first | exact trivial | exact rfl | apply And.intro)); done) | (simp; omega) | (refine ⟨?_, ?_, ?_⟩ <;> first | omega | (simp; done) | (simp; omega)) | exact hc0 | exact ⟨hc0, hc0⟩ | exact ⟨hc0, hc0, hc0⟩ | (simp only [Bool.and_eq_true] at hc0; simp [hc0]; done) | (simp_all; done))))
      | ((first | with_reducible apply DrawR.go0 | with_reducible apply KerB.mk); (focus kernel_rfl))
      | (first | with_reducible apply ends_ret | with_reducible apply ends_norm | with_reducible apply Halt'.mk)
      | ((with_reducible apply CondD.mk) <;> intro hb <;> (try simp only [SPLT] at hb) <;> (try first | contradiction | exact absurd hb (by assumption) | exact absurd (by assumption) hb | (exfalso; omega) | (exfalso; simp at hb; done))))
  all_goals (try exact (false : Bool))
  refine loop_go (M := fun t => mem t []) hT hM (fun k : Nat => [(10, .int .i64 k)]) (fun k => k ≤ s.length ∧ (s.take k).all digByte = true) (fun k => s.length - k) (0) ?_ ?_ ?_
  · (conv => whnf)
    refine ⟨?_, by rfl⟩
    repeat' ((conv => whnf); first | exact DLes.nil | with_reducible exact DLe.refl _ | exact DLe.any _ | with_reducible apply DLes.cons | exact DLe.refl _ | exact dle_int (by omega) | exact dle_nil rfl | exact DLe.own _ _)
  · exact ⟨by omega, rfl⟩
  · rintro k ⟨hk, hall⟩
    repeat' (
      (conv => whnf)
      first
        | ((try ((first | with_reducible apply NumE.go | with_reducible apply IdxE.go | with_reducible apply TextE.go | with_reducible apply LookE.go | with_reducible apply CallE.go); (conv => whnf))); (with_reducible apply SideD.mk); (focus ((first | (intro hc; have hc0 := hc; (try simp only [SPLT] at hc); (try refine And.intro (by first | exact hc0 | exact ⟨hc0, hc0⟩ | exact ⟨hc0, hc0, hc0⟩) ?_)) | skip); first | exact idx_nat (by assumption) | exact idx_some (by omega) (by assumption) | exact idx_eq (by assumption) (by omega) | exact IntWalk.i64_in _ (by omega) | exact IntWalk.u8_in _ (by omega) | exact IntWalk.u64_in _ (by omega) | exact IntWalk.i32_in _ (by omega) | exact rfl | exact ⟨by omega, rfl⟩ | exact ⟨rfl, rfl⟩ | assumption | exact ⟨by omega, by omega⟩ | exact ⟨by omega, by simp; omega⟩ | omega | exact ⟨rfl, rfl, by simp only [List.length_map, List.length_append, List.length_cons, List.length_nil]; omega⟩ | exact ⟨rfl, rfl, by simp; omega⟩ | exact ⟨rfl, rfl, by omega⟩ | exact ⟨rfl, by simp; omega⟩ | exact id | (intro h; simp [h]; done) | ((repeat (first | exact trivial | exact rfl | apply And.intro)); done) | (simp; omega) | (refine ⟨?_, ?_, ?_⟩ <;> first | omega | (simp; done) | (simp; omega)) | exact hc0 | exact ⟨hc0, hc0⟩ | exact ⟨hc0, hc0, hc0⟩ | (simp only [Bool.and_eq_true] at hc0; simp [hc0]; done) | (simp_all; done))))
        | ((first | with_reducible apply DrawR.go0 | with_reducible apply KerB.mk); (focus kernel_rfl))
        | (first | with_reducible apply ends_ret | with_reducible apply ends_norm | with_reducible apply Halt'.mk)
        | ((with_reducible apply CondD.mk) <;> intro hb <;> (try simp only [SPLT] at hb) <;> (try first | contradiction | exact absurd hb (by assumption) | exact absurd (by assumption) hb | (exfalso; omega) | (exfalso; simp at hb; done))))
    all_goals (try exact (false : Bool))
    · rename_i hb0
      obtain ⟨x, hx⟩ : ∃ x, s[k]? = some x := ⟨s[k], by simp⟩
      repeat' ((conv => whnf); first | exact trivial | with_reducible apply And.intro | with_reducible apply endsO_ret | with_reducible apply endsO_norm | exact DLes.nil | with_reducible exact DLe.refl _ | exact DLe.any _ | with_reducible apply DLes.cons | with_reducible exact rle_refl | exact rle_bool rfl | exact rle_int rfl | exact rle_nil rfl | exact rle_sl0 rfl)
      all_goals (conv => whnf)
      refine rle_bool (Eq.symm ?_)
      simp [hx] at hb
      have : digByte x = false := by
        simp [digByte]
        omega
      rw [List.all_eq_false]
      exact ⟨x, List.mem_of_getElem? hx, by simp [this]⟩
    · rename_i hb0
      obtain ⟨x, hx⟩ : ∃ x, s[k]? = some x := ⟨s[k], by simp⟩
      refine ⟨k + 1, ⟨by omega, ?_⟩, by omega, ?_⟩
      · simp [hx] at hb
        rw [take_at hx, List.all_append, hall]
        have : digByte x = true := by
          simp [digByte]
          omega
        simp [this]
      · (conv => whnf)
        refine ⟨?_, by rfl⟩
        repeat' ((conv => whnf); first | exact DLes.nil | with_reducible exact DLe.refl _ | exact DLe.any _ | with_reducible apply DLes.cons | exact DLe.refl _ | exact dle_int (by omega) | exact dle_nil rfl | exact DLe.own _ _)
    · repeat' ((conv => whnf); first | exact trivial | with_reducible apply And.intro | with_reducible apply endsO_ret | with_reducible apply endsO_norm | exact DLes.nil | with_reducible exact DLe.refl _ | exact DLe.any _ | with_reducible apply DLes.cons | with_reducible exact rle_refl | exact rle_bool rfl | exact rle_int rfl | exact rle_nil rfl | exact rle_sl0 rfl)
      all_goals (conv => whnf)
      refine rle_bool (Eq.symm ?_)
      rw [List.take_of_length_le (by omega)] at hall
      exact hall
theorem isDigits_sem (s : Str) (hs : s.Ok) : Sem Tryd.prog 24 [.str s] (.bool (!(s == []) && s.all digByte)) := by
  have h := inDigits_sem s hs
  refine sem_intro (M := fun t => mem t []) hT hM Tryd.func24 inferInstance rfl rfl rfl rfl rfl rfl ?_
  repeat' (
    (conv => whnf)
    first
      | ((try ((first | with_reducible apply NumE.go | with_reducible apply IdxE.go | with_reducible apply TextE.go | with_reducible apply LookE.go | with_reducible apply CallE.go); (conv => whnf))); (with_reducible apply SideD.mk); (focus ((first | (intro hc; have hc0 := hc; (try simp only [SPLT] at hc); (try refine And.intro (by first | exact hc0 | exact ⟨hc0, hc0⟩ | exact ⟨hc0, hc0, hc0⟩) ?_)) | skip); first | exact idx_nat (by assumption) | exact idx_some (by omega) (by assumption) | exact idx_eq (by assumption) (by omega) | ((try apply givesl); (focus (first | ((apply gives_go (h)); (focus (first | exact DLes.refl _ | (repeat (first | exact DLes.nil | ((apply DLes.cons); (focus (first | exact DLe.refl _ | exact DLe.own _ _ | exact DLe.nil _ _ | exact DLe.any _))))))); (focus exact rfl); (all_goals (first | exact rfl | assumption | omega | (simp; omega) | (simp; done)))) | ((apply gives_go (inDigits_sem _ _)); (focus (first | exact DLes.refl _ | (repeat (first | exact DLes.nil | ((apply DLes.cons); (focus (first | exact DLe.refl _ | exact DLe.own _ _ | exact DLe.nil _ _ | exact DLe.any _))))))); (focus exact rfl); (all_goals (first | exact rfl | assumption | omega | (simp; omega) | (simp; done)))) | ((apply gives_go (inBytes_sem _ _)); (focus (first | exact DLes.refl _ | (repeat (first | exact DLes.nil | ((apply DLes.cons); (focus (first | exact DLe.refl _ | exact DLe.own _ _ | exact DLe.nil _ _ | exact DLe.any _))))))); (focus exact rfl); (all_goals (first | exact rfl | assumption | omega | (simp; omega) | (simp; done)))))); (all_goals exact rfl)) | exact IntWalk.i64_in _ (by omega) | exact IntWalk.u8_in _ (by omega) | exact IntWalk.u64_in _ (by omega) | exact IntWalk.i32_in _ (by omega) | exact rfl | exact ⟨by omega, rfl⟩ | exact ⟨rfl, rfl⟩ | assumption | exact ⟨by omega, by omega⟩ | exact ⟨by omega, by simp; omega⟩ | omega | exact ⟨rfl, rfl, by simp only [List.length_map, List.length_append, List.length_cons, List.length_nil]; omega⟩ | exact ⟨rfl, rfl, by simp; omega⟩ | exact ⟨rfl, rfl, by omega⟩ | exact ⟨rfl, by simp; omega⟩ | exact id | (intro h; simp [h]; done) | ((repeat (first | exact trivial | exact rfl | apply And.intro)); done) | (simp; omega) | (refine ⟨?_, ?_, ?_⟩ <;> first | omega | (simp; done) | (simp; omega)) | exact hc0 | exact ⟨hc0, hc0⟩ | exact ⟨hc0, hc0, hc0⟩ | (simp only [Bool.and_eq_true] at hc0; simp [hc0]; done) | (simp_all; done))))
      | ((first | with_reducible apply DrawR.go0 | with_reducible apply KerB.mk); (focus kernel_rfl))
      | (first | with_reducible apply ends_ret | with_reducible apply ends_norm | with_reducible apply Halt'.mk)
      | ((with_reducible apply CondD.mk) <;> intro hb <;> (try simp only [SPLT] at hb) <;> (try first | contradiction | exact absurd hb (by assumption) | exact absurd (by assumption) hb | (exfalso; omega) | (exfalso; simp at hb; done))))
  all_goals (try exact (false : Bool))
  repeat' ((conv => whnf); first | exact trivial | with_reducible apply And.intro | with_reducible apply endsO_ret | with_reducible apply endsO_norm | exact DLes.nil | with_reducible exact DLe.refl _ | exact DLe.any _ | with_reducible apply DLes.cons | with_reducible exact rle_refl | exact rle_bool rfl | exact rle_int rfl | exact rle_nil rfl | exact rle_sl0 rfl)
  all_goals (conv => whnf)
theorem Number_sem (s : Str) (hs : s.Ok) : Sem Tryd.prog 14 [.str s, .int .i64 16] (.tup [.int .i64 (numN s).1, .bool (numN s).2]) := by
  have hI := isDigits_sem s hs
  unfold Str.Ok at hs
  by_cases hc : canonB s = true
  · have e : numN s = (valN s, true) := by unfold numN; rw [if_pos hc]
    unfold canonB headZero at hc
    simp only [Bool.and_eq_true, decide_eq_true_eq, Bool.not_eq_true', Bool.and_eq_false_iff, decide_eq_false_iff_not] at hc
    obtain ⟨⟨⟨h1, h2⟩, h3⟩, h4⟩ := hc
    have hne : (s == []) = false := by
      cases s with
      | nil => simp at h1
      | cons _ _ => rfl
    have hA := atoi_sem s (valN s) (by omega) (atoi_val h1 h4)
    rw [hne, h4] at hI
    rw [e]
    refine sem_intro (M := fun t => mem t []) hT hM Tryd.func14 inferInstance rfl rfl rfl rfl rfl rfl ?_
    repeat' (
      (conv => whnf)
      first
        | ((try ((first | with_reducible apply NumE.go | with_reducible apply IdxE.go | with_reducible apply TextE.go | with_reducible apply LookE.go | with_reducible apply CallE.go); (conv => whnf))); (with_reducible apply SideD.mk); (focus ((first | (intro hc; have hc0 := hc; (try simp only [SPLT] at hc); (try refine And.intro (by first | exact hc0 | exact ⟨hc0, hc0⟩ | exact ⟨hc0, hc0, hc0⟩) ?_)) | skip); first | exact idx_nat (by assumption) | exact idx_some (by omega) (by assumption) | exact idx_eq (by assumption) (by omega) | ((try apply givesl); (focus (first | ((apply gives_go (hI)); (focus (first | exact DLes.refl _ | (repeat (first | exact DLes.nil | ((apply DLes.cons); (focus (first | exact DLe.refl _ | exact DLe.own _ _ | exact DLe.nil _ _ | exact DLe.any _))))))); (focus exact rfl); (all_goals (first | exact rfl | assumption | omega | (simp; omega) | (simp; done)))) | ((apply gives_go (hA)); (focus (first | exact DLes.refl _ | (repeat (first | exact DLes.nil | ((apply DLes.cons); (focus (first | exact DLe.refl _ | exact DLe.own _ _ | exact DLe.nil _ _ | exact DLe.any _))))))); (focus exact rfl); (all_goals (first | exact rfl | assumption | omega | (simp; omega) | (simp; done)))) | ((first | apply gives_go (isDigits_sem _ _) | apply gives_go (atoi_sem _ _ _ _)); (focus (first | exact DLes.refl _ | (repeat (first | exact DLes.nil | ((apply DLes.cons); (focus (first | exact DLe.refl _ | exact DLe.own _ _ | exact DLe.nil _ _ | exact DLe.any _))))))); (focus exact rfl); (all_goals (first | exact rfl | assumption | omega | (simp; omega) | (simp; done)))))); (all_goals exact rfl)) | exact IntWalk.i64_in _ (by omega) | exact IntWalk.u8_in _ (by omega) | exact IntWalk.u64_in _ (by omega) | exact IntWalk.i32_in _ (by omega) | exact rfl | exact ⟨by omega, rfl⟩ | exact ⟨rfl, rfl⟩ | assumption | exact ⟨by omega, by omega⟩ | exact ⟨by omega, by simp; omega⟩ | omega | exact ⟨rfl, rfl, by simp only [List.length_map, List.length_append, List.length_cons, List.length_nil]; omega⟩ | exact ⟨rfl, rfl, by simp; omega⟩ | exact ⟨rfl, rfl, by omega⟩ | exact ⟨rfl, by simp; omega⟩ | exact id | (intro h; simp [h]; done) | ((repeat (first | exact trivial | exact rfl | apply And.intro)); done) | (simp; omega) | (refine ⟨?_, ?_, ?_⟩ <;> first | omega | (simp; done) | (simp; omega)) | exact hc0 | exact ⟨hc0, hc0⟩ | exact ⟨hc0, hc0, hc0⟩ | (simp only [Bool.and_eq_true] at hc0; simp [hc0]; done) | (simp_all; done))))
        | ((first | with_reducible apply DrawR.go0 | with_reducible apply KerB.mk); (focus kernel_rfl))
        | (first | with_reducible apply ends_ret | with_reducible apply ends_norm | with_reducible apply Halt'.mk)
        | ((with_reducible apply CondD.mk) <;> intro hb <;> (try simp only [SPLT] at hb) <;> (try first | contradiction | exact absurd hb (by assumption) | exact absurd (by assumption) hb | (exfalso; omega) | (exfalso; simp at hb; done))))
    all_goals (try exact (false : Bool))
    · exfalso
      rcases hb with (h | h | h) | h
      · omega
      · cases h
      · cases h
      · omega
    · repeat' ((conv => whnf); first | exact trivial | with_reducible apply And.intro | with_reducible apply endsO_ret | with_reducible apply endsO_norm | exact DLes.nil | with_reducible exact DLe.refl _ | exact DLe.any _ | with_reducible apply DLes.cons | with_reducible exact rle_refl | exact rle_bool rfl | exact rle_int rfl | exact rle_nil rfl | exact rle_sl0 rfl)
      all_goals (conv => whnf)
  · have e : numN s = (0, false) := by unfold numN; rw [if_neg hc]
    rw [e]
    cases hq : (!(s == []) && s.all digByte)
    · rw [hq] at hI
      refine sem_intro (M := fun t => mem t []) hT hM Tryd.func14 inferInstance rfl rfl rfl rfl rfl rfl ?_
      repeat' (
        (conv => whnf)
        first
          | ((try ((first | with_reducible apply NumE.go | with_reducible apply IdxE.go | with_reducible apply TextE.go | with_reducible apply LookE.go | with_reducible apply CallE.go); (conv => whnf))); (with_reducible apply SideD.mk); (focus ((first | (intro hc; have hc0 := hc; (try simp only [SPLT] at hc); (try refine And.intro (by first | exact hc0 | exact ⟨hc0, hc0⟩ | exact ⟨hc0, hc0, hc0⟩) ?_)) | skip); first | exact idx_nat (by assumption) | exact idx_some (by omega) (by assumption) | exact idx_eq (by assumption) (by omega) | ((try apply givesl); (focus (first | ((apply gives_go (hI)); (focus (first | exact DLes.refl _ | (repeat (first | exact DLes.nil | ((apply DLes.cons); (focus (first | exact DLe.refl _ | exact DLe.own _ _ | exact DLe.nil _ _ | exact DLe.any _))))))); (focus exact rfl); (all_goals (first | exact rfl | assumption | omega | (simp; omega) | (simp; done)))) | ((first | apply gives_go (isDigits_sem _ _) | apply gives_go (atoi_sem _ _ _ _)); (focus (first | exact DLes.refl _ | (repeat (first | exact DLes.nil | ((apply DLes.cons); (focus (first | exact DLe.refl _ | exact DLe.own _ _ | exact DLe.nil _ _ | exact DLe.any _))))))); (focus exact rfl); (all_goals (first | exact rfl | assumption | omega | (simp; omega) | (simp; done)))))); (all_goals exact rfl)) | exact IntWalk.i64_in _ (by omega) | exact IntWalk.u8_in _ (by omega) | exact IntWalk.u64_in _ (by omega) | exact IntWalk.i32_in _ (by omega) | exact rfl | exact ⟨by omega, rfl⟩ | exact ⟨rfl, rfl⟩ | assumption | exact ⟨by omega, by omega⟩ | exact ⟨by omega, by simp; omega⟩ | omega | exact ⟨rfl, rfl, by simp only [List.length_map, List.length_append, List.length_cons, List.length_nil]; omega⟩ | exact ⟨rfl, rfl, by simp; omega⟩ | exact ⟨rfl, rfl, by omega⟩ | exact ⟨rfl, by simp; omega⟩ | exact id | (intro h; simp [h]; done) | ((repeat (first | exact trivial | exact rfl | apply And.intro)); done) | (simp; omega) | (refine ⟨?_, ?_, ?_⟩ <;> first | omega | (simp; done) | (simp; omega)) | exact hc0 | exact ⟨hc0, hc0⟩ | exact ⟨hc0, hc0, hc0⟩ | (simp only [Bool.and_eq_true] at hc0; simp [hc0]; done) | (simp_all; done))))
          | ((first | with_reducible apply DrawR.go0 | with_reducible apply KerB.mk); (focus kernel_rfl))
          | (first | with_reducible apply ends_ret | with_reducible apply ends_norm | with_reducible apply Halt'.mk)
          | ((with_reducible apply CondD.mk) <;> intro hb <;> (try simp only [SPLT] at hb) <;> (try first | contradiction | exact absurd hb (by assumption) | exact absurd (by assumption) hb | (exfalso; omega) | (exfalso; simp at hb; done))))
      all_goals (try exact (false : Bool))
      repeat' ((conv => whnf); first | exact trivial | with_reducible apply And.intro | with_reducible apply endsO_ret | with_reducible apply endsO_norm | exact DLes.nil | with_reducible exact DLe.refl _ | exact DLe.any _ | with_reducible apply DLes.cons | with_reducible exact rle_refl | exact rle_bool rfl | exact rle_int rfl | exact rle_nil rfl | exact rle_sl0 rfl)
      all_goals (conv => whnf)
    · have hc' : 16 < s.length ∨ (1 < s.length ∧ (s.getD (Int.toNat 0) 0).toNat = 48) := by
        rw [Bool.and_eq_true] at hq
        have h1 : 1 ≤ s.length := by
          cases s with
          | nil => simp at hq
          | cons _ _ => simp
        by_cases h2 : s.length ≤ 16
        · refine .inr ?_
          unfold canonB at hc
          rw [decide_eq_true h1, decide_eq_true h2, hq.2, Bool.true_and, Bool.true_and, Bool.and_true] at hc
          simpa [headZero] using hc
        · exact .inl (by omega)
      rw [hq] at hI
      refine sem_intro (M := fun t => mem t []) hT hM Tryd.func14 inferInstance rfl rfl rfl rfl rfl rfl ?_
      repeat' (
        (conv => whnf)
        first
          | ((try ((first | with_reducible apply NumE.go | with_reducible apply IdxE.go | with_reducible apply TextE.go | with_reducible apply LookE.go | with_reducible apply CallE.go); (conv => whnf))); (with_reducible apply SideD.mk); (focus ((first | (intro hc; have hc0 := hc; (try simp only [SPLT] at hc); (try refine And.intro (by first | exact hc0 | exact ⟨hc0, hc0⟩ | exact ⟨hc0, hc0, hc0⟩) ?_)) | skip); first | exact idx_nat (by assumption) | exact idx_some (by omega) (by assumption) | exact idx_eq (by assumption) (by omega) | ((try apply givesl); (focus (first | ((apply gives_go (hI)); (focus (first | exact DLes.refl _ | (repeat (first | exact DLes.nil | ((apply DLes.cons); (focus (first | exact DLe.refl _ | exact DLe.own _ _ | exact DLe.nil _ _ | exact DLe.any _))))))); (focus exact rfl); (all_goals (first | exact rfl | assumption | omega | (simp; omega) | (simp; done)))) | ((first | apply gives_go (isDigits_sem _ _) | apply gives_go (atoi_sem _ _ _ _)); (focus (first | exact DLes.refl _ | (repeat (first | exact DLes.nil | ((apply DLes.cons); (focus (first | exact DLe.refl _ | exact DLe.own _ _ | exact DLe.nil _ _ | exact DLe.any _))))))); (focus exact rfl); (all_goals (first | exact rfl | assumption | omega | (simp; omega) | (simp; done)))))); (all_goals exact rfl)) | exact IntWalk.i64_in _ (by omega) | exact IntWalk.u8_in _ (by omega) | exact IntWalk.u64_in _ (by omega) | exact IntWalk.i32_in _ (by omega) | exact rfl | exact ⟨by omega, rfl⟩ | exact ⟨rfl, rfl⟩ | assumption | exact ⟨by omega, by omega⟩ | exact ⟨by omega, by simp; omega⟩ | omega | exact ⟨rfl, rfl, by simp only [List.length_map, List.length_append, List.length_cons, List.length_nil]; omega⟩ | exact ⟨rfl, rfl, by simp; omega⟩ | exact ⟨rfl, rfl, by omega⟩ | exact ⟨rfl, by simp; omega⟩ | exact id | (intro h; simp [h]; done) | ((repeat (first | exact trivial | exact rfl | apply And.intro)); done) | (simp; omega) | (refine ⟨?_, ?_, ?_⟩ <;> first | omega | (simp; done) | (simp; omega)) | exact hc0 | exact ⟨hc0, hc0⟩ | exact ⟨hc0, hc0, hc0⟩ | (simp only [Bool.and_eq_true] at hc0; simp [hc0]; done) | (simp_all; done))))
          | ((first | with_reducible apply DrawR.go0 | with_reducible apply KerB.mk); (focus kernel_rfl))
          | (first | with_reducible apply ends_ret | with_reducible apply ends_norm | with_reducible apply Halt'.mk)
          | ((with_reducible apply CondD.mk) <;> intro hb <;> (try simp only [SPLT] at hb) <;> (try first | contradiction | exact absurd hb (by assumption) | exact absurd (by assumption) hb | (exfalso; omega) | (exfalso; simp at hb; done))))
      all_goals (try exact (false : Bool))
      repeat' ((conv => whnf); first | exact trivial | with_reducible apply And.intro | with_reducible apply endsO_ret | with_reducible apply endsO_norm | exact DLes.nil | with_reducible exact DLe.refl _ | exact DLe.any _ | with_reducible apply DLes.cons | with_reducible exact rle_refl | exact rle_bool rfl | exact rle_int rfl | exact rle_nil rfl | exact rle_sl0 rfl)
      all_goals (conv => whnf)
theorem Split_sem (s : Str) (hs : s.length < 4294967281) : Sem Tryd.prog 22 [.str s, .str [32]] (.sl 2 1 ((words s).map fun x => [.str x])) := by
  have h := genSplit_sem s hs
  refine sem_intro (M := fun t => mem t []) hT hM Tryd.func22 inferInstance rfl rfl rfl rfl rfl rfl ?_
  repeat' (
    (conv => whnf)
    first
      | ((try ((first | with_reducible apply NumE.go | with_reducible apply IdxE.go | with_reducible apply TextE.go | with_reducible apply LookE.go | with_reducible apply CallE.go); (conv => whnf))); (with_reducible apply SideD.mk); (focus (first | exact idx_nat (by assumption) | exact idx_some (by omega) (by assumption) | exact idx_eq (by assumption) (by omega) | ((try apply givesl); (focus (first | ((apply gives_go (h)); (focus (first | exact DLes.refl _ | (repeat (first | exact DLes.nil | ((apply DLes.cons); (focus (first | exact DLe.refl _ | exact DLe.own _ _ | exact DLe.nil _ _ | exact DLe.any _))))))); (focus exact rfl); (all_goals (first | exact rfl | assumption | omega | (simp; omega) | (simp; done)))) | ((apply gives_go (genSplit_sem _ _)); (focus (first | exact DLes.refl _ | (repeat (first | exact DLes.nil | ((apply DLes.cons); (focus (first | exact DLe.refl _ | exact DLe.own _ _ | exact DLe.nil _ _ | exact DLe.any _))))))); (focus exact rfl); (all_goals (first | exact rfl | assumption | omega | (simp; omega) | (simp; done)))))); (all_goals exact rfl)) | exact IntWalk.i64_in _ (by omega) | exact IntWalk.u8_in _ (by omega) | exact IntWalk.u64_in _ (by omega) | exact IntWalk.i32_in _ (by omega) | exact rfl | exact ⟨by omega, rfl⟩ | exact ⟨rfl, rfl⟩ | assumption | exact ⟨by omega, by omega⟩ | exact ⟨by omega, by simp; omega⟩ | omega | exact ⟨rfl, rfl, by simp only [List.length_map, List.length_append, List.length_cons, List.length_nil]; omega⟩ | exact ⟨rfl, rfl, by simp; omega⟩ | exact ⟨rfl, rfl, by omega⟩ | exact ⟨rfl, by simp; omega⟩ | exact id | (intro h; simp [h]; done) | ((repeat (first | exact trivial | exact rfl | apply And.intro)); done) | (simp; omega) | (refine ⟨?_, ?_, ?_⟩ <;> first | omega | (simp; done) | (simp; omega)) | (simp_all; done))))
      | ((first | with_reducible apply DrawR.go0 | with_reducible apply KerB.mk); (focus kernel_rfl))
      | (first | with_reducible apply ends_ret | with_reducible apply ends_norm | with_reducible apply Halt'.mk)
      | ((with_reducible apply CondD.mk) <;> intro hb <;> (try simp only [SPLT] at hb) <;> (try first | contradiction | exact absurd hb (by assumption) | exact absurd (by assumption) hb | (exfalso; omega) | (exfalso; simp at hb; done))))
  all_goals (try exact (false : Bool))
  repeat' ((conv => whnf); first | exact trivial | with_reducible apply And.intro | with_reducible apply endsO_ret | with_reducible apply endsO_norm | exact DLes.nil | with_reducible exact DLe.refl _ | exact DLe.any _ | with_reducible apply DLes.cons | with_reducible exact rle_refl | exact rle_bool rfl | exact rle_int rfl | exact rle_nil rfl | exact rle_sl0 rfl)
  all_goals (conv => whnf)
end Go.Proofs.YtkjgmjocikmplaaDoor
namespace Go.Proofs.YtkjgmjocikmplaaDoor
set_option linter.unusedSimpArgs false
set_option linter.unusedVariables false
open Go.RowKit
set_option maxRecDepth 100000
set_option maxHeartbeats 1000000

theorem noGap_no {W : List Str} {k : Nat} {x : Str} (hx : W[k]? = some x) (h : x = []) : noGap W = false := by
  unfold noGap
  rw [List.all_eq_false]
  exact ⟨x, List.mem_of_getElem? hx, by simp [h]⟩
theorem Words_sem (s : Str) (hs : s.length < 4294967281) : Sem Tryd.prog 12 [.str s] (.tup [.sl 0 1 (if noGap (words s) = true then (words s).map fun x => [.str x] else []), .bool (noGap (words s))]) := by
  have hS := Split_sem s hs
  have hl := words_len s
  generalize words s = W at hS hl ⊢
  refine sem_intro (M := fun t => mem t []) hT hM Tryd.func12 inferInstance rfl rfl rfl rfl rfl rfl ?_
  repeat' (
    (conv => whnf)
    first
      | ((try ((first | with_reducible apply NumE.go | with_reducible apply IdxE.go | with_reducible apply TextE.go | with_reducible apply LookE.go | with_reducible apply CallE.go); (conv => whnf))); (with_reducible apply SideD.mk); (focus (first | exact idx_nat (by assumption) | exact idx_some (by omega) (by assumption) | exact idx_eq (by assumption) (by omega) | ((try apply givesl); (focus (first | ((apply gives_go (hS)); (focus (first | exact DLes.refl _ | (repeat (first | exact DLes.nil | ((apply DLes.cons); (focus (first | exact DLe.refl _ | exact DLe.own _ _ | exact DLe.nil _ _ | exact DLe.any _))))))); (focus exact rfl); (all_goals (first | exact rfl | assumption | omega | (simp; omega) | (simp; done)))) | ((apply gives_go (Split_sem _ _)); (focus (first | exact DLes.refl _ | (repeat (first | exact DLes.nil | ((apply DLes.cons); (focus (first | exact DLe.refl _ | exact DLe.own _ _ | exact DLe.nil _ _ | exact DLe.any _))))))); (focus exact rfl); (all_goals (first | exact rfl | assumption | omega | (simp; omega) | (simp; done)))))); (all_goals exact rfl)) | exact IntWalk.i64_in _ (by omega) | exact IntWalk.u8_in _ (by omega) | exact IntWalk.u64_in _ (by omega) | exact IntWalk.i32_in _ (by omega) | exact rfl | exact ⟨by omega, rfl⟩ | exact ⟨rfl, rfl⟩ | assumption | exact ⟨by omega, by omega⟩ | exact ⟨by omega, by simp; omega⟩ | omega | exact ⟨rfl, rfl, by simp only [List.length_map, List.length_append, List.length_cons, List.length_nil]; omega⟩ | exact ⟨rfl, rfl, by simp; omega⟩ | exact ⟨rfl, rfl, by omega⟩ | exact ⟨rfl, by simp; omega⟩ | exact id | (intro h; simp [h]; done) | ((repeat (first | exact trivial | exact rfl | apply And.intro)); done) | (simp; omega) | (refine ⟨?_, ?_, ?_⟩ <;> first | omega | (simp; done) | (simp; omega)) | (simp_all; done))))
      | ((first | with_reducible apply DrawR.go0 | with_reducible apply KerB.mk); (focus kernel_rfl))
      | (first | with_reducible apply ends_ret | with_reducible apply ends_norm | with_reducible apply Halt'.mk)
      | ((with_reducible apply CondD.mk) <;> intro hb <;> (try simp only [SPLT] at hb) <;> (try first | contradiction | exact absurd hb (by assumption) | exact absurd (by assumption) hb | (exfalso; omega) | (exfalso; simp at hb; done))))
  all_goals (try exact (false : Bool))
  refine ht_down [4] ?_
  conv => whnf
  refine loop_go (M := fun t => mem t []) hT hM (fun k : Nat => [(11, .int .i64 k)]) (fun k => k ≤ W.length ∧ noGap (W.take k) = true) (fun k => W.length - k) (0) ?_ ?_ ?_
  · (conv => whnf)
    refine ⟨?_, by rfl⟩
    repeat' ((conv => whnf); first | exact DLes.nil | with_reducible exact DLe.refl _ | exact DLe.any _ | with_reducible apply DLes.cons | exact DLe.refl _ | exact dle_int (by omega) | exact dle_nil rfl | exact DLe.own _ _)
  · exact ⟨by omega, rfl⟩
  · rintro k ⟨hk, hall⟩
    rcases hx : W[k]? with _ | x
    · have hk' : k = W.length := by have := List.getElem?_eq_none_iff.1 hx; omega
      subst hk'
      rw [List.take_length] at hall
      rw [hall, if_pos rfl]
      repeat' (
        (conv => whnf)
        first
          | ((try ((first | with_reducible apply NumE.go | with_reducible apply IdxE.go | with_reducible apply TextE.go | with_reducible apply LookE.go | with_reducible apply CallE.go); (conv => whnf))); (with_reducible apply SideD.mk); (focus (first | exact idx_nat (by assumption) | exact idx_some (by omega) (by assumption) | exact idx_eq (by assumption) (by omega) | ((try apply givesl); (focus (((apply gives_go (Split_sem _ _)); (focus (first | exact DLes.refl _ | (repeat (first | exact DLes.nil | ((apply DLes.cons); (focus (first | exact DLe.refl _ | exact DLe.own _ _ | exact DLe.nil _ _ | exact DLe.any _))))))); (focus exact rfl); (all_goals (first | exact rfl | assumption | omega | (simp; omega) | (simp; done)))))); (all_goals exact rfl)) | exact IntWalk.i64_in _ (by omega) | exact IntWalk.u8_in _ (by omega) | exact IntWalk.u64_in _ (by omega) | exact IntWalk.i32_in _ (by omega) | exact rfl | exact ⟨by omega, rfl⟩ | exact ⟨rfl, rfl⟩ | assumption | exact ⟨by omega, by omega⟩ | exact ⟨by omega, by simp; omega⟩ | omega | exact ⟨rfl, rfl, by simp only [List.length_map, List.length_append, List.length_cons, List.length_nil]; omega⟩ | exact ⟨rfl, rfl, by simp; omega⟩ | exact ⟨rfl, rfl, by omega⟩ | exact ⟨rfl, by simp; omega⟩ | exact id | (intro h; simp [h]; done) | ((repeat (first | exact trivial | exact rfl | apply And.intro)); done) | (simp; omega) | (refine ⟨?_, ?_, ?_⟩ <;> first | omega | (simp; done) | (simp; omega)) | (simp_all; done))))
          | ((first | with_reducible apply DrawR.go0 | with_reducible apply KerB.mk); (focus kernel_rfl))
          | (first | with_reducible apply ends_ret | with_reducible apply ends_norm | with_reducible apply Halt'.mk)
          | ((with_reducible apply CondD.mk) <;> intro hb <;> (try simp only [SPLT] at hb) <;> (try first | contradiction | exact absurd hb (by assumption) | exact absurd (by assumption) hb | (exfalso; omega) | (exfalso; simp at hb; done))))
      all_goals (try exact (false : Bool))
      repeat' ((conv => whnf); first | exact trivial | with_reducible apply And.intro | with_reducible apply endsO_ret | with_reducible apply endsO_norm | exact DLes.nil | with_reducible exact DLe.refl _ | exact DLe.any _ | with_reducible apply DLes.cons | with_reducible exact rle_refl | exact rle_bool rfl | exact rle_int rfl | exact rle_nil rfl | exact rle_sl0 rfl)
      all_goals (conv => whnf)
    · have hlt := (List.getElem?_eq_some_iff.1 hx).1
      repeat' (
        (conv => whnf)
        first
          | ((try ((first | with_reducible apply NumE.go | with_reducible apply IdxE.go | with_reducible apply TextE.go | with_reducible apply LookE.go | with_reducible apply CallE.go); (conv => whnf))); (with_reducible apply SideD.mk); (focus (first | exact idx_nat (by assumption) | exact idx_some (by omega) (by assumption) | exact idx_eq (by assumption) (by omega) | ((try apply givesl); (focus (((apply gives_go (Split_sem _ _)); (focus (first | exact DLes.refl _ | (repeat (first | exact DLes.nil | ((apply DLes.cons); (focus (first | exact DLe.refl _ | exact DLe.own _ _ | exact DLe.nil _ _ | exact DLe.any _))))))); (focus exact rfl); (all_goals (first | exact rfl | assumption | omega | (simp; omega) | (simp; done)))))); (all_goals exact rfl)) | exact IntWalk.i64_in _ (by omega) | exact IntWalk.u8_in _ (by omega) | exact IntWalk.u64_in _ (by omega) | exact IntWalk.i32_in _ (by omega) | exact rfl | exact ⟨by omega, rfl⟩ | exact ⟨rfl, rfl⟩ | assumption | exact ⟨by omega, by omega⟩ | exact ⟨by omega, by simp; omega⟩ | omega | exact ⟨rfl, rfl, by simp only [List.length_map, List.length_append, List.length_cons, List.length_nil]; omega⟩ | exact ⟨rfl, rfl, by simp; omega⟩ | exact ⟨rfl, rfl, by omega⟩ | exact ⟨rfl, by simp; omega⟩ | exact id | (intro h; simp [h]; done) | ((repeat (first | exact trivial | exact rfl | apply And.intro)); done) | (simp; omega) | (refine ⟨?_, ?_, ?_⟩ <;> first | omega | (simp; done) | (simp; omega)) | (simp_all; done))))
          | ((first | with_reducible apply DrawR.go0 | with_reducible apply KerB.mk); (focus kernel_rfl))
          | (first | with_reducible apply ends_ret | with_reducible apply ends_norm | with_reducible apply Halt'.mk)
          | ((with_reducible apply CondD.mk) <;> intro hb <;> (try simp only [SPLT] at hb) <;> (try first | contradiction | exact absurd hb (by assumption) | exact absurd (by assumption) hb | (exfalso; omega) | (exfalso; simp at hb; done))))
      all_goals (try exact (false : Bool))
      · repeat' ((conv => whnf); first | exact trivial | with_reducible apply And.intro | with_reducible apply endsO_ret | with_reducible apply endsO_norm | exact DLes.nil | with_reducible exact DLe.refl _ | exact DLe.any _ | with_reducible apply DLes.cons | with_reducible exact rle_refl | exact rle_bool rfl | exact rle_int rfl | exact rle_nil rfl | exact rle_sl0 rfl)
        all_goals (conv => whnf)
        · rw [if_neg (by rw [noGap_no hx hb]; decide)]
          exact rle_nil rfl
        · rw [noGap_no hx hb]
          exact rle_refl
      · refine ⟨k + 1, ⟨by omega, ?_⟩, by omega, ?_⟩
        · rw [take_at hx]
          unfold noGap at hall ⊢
          rw [List.all_append, hall]
          simp [hb]
        · (conv => whnf)
          refine ⟨?_, by rfl⟩
          repeat' ((conv => whnf); first | exact DLes.nil | with_reducible exact DLe.refl _ | exact DLe.any _ | with_reducible apply DLes.cons | exact DLe.refl _ | exact dle_int (by omega) | exact dle_nil rfl | exact DLe.own _ _)
/-- What is not read may be anything. -/
theorem idx_void {j : Int} {rows : List (List D)} {c : Prop} (h : c) (hn : ¬ c) : 0 ≤ j ∧ rows[j.toNat]? = some [D.str []] := absurd h hn
theorem ReadReceipt_sem (s t : List UInt8) (hs : s.length ≤ 9223372036854775807) (ht : t.length < 4294967281) : Sem Tryd.prog 6 [.sl 0 1 (s.map bR), .str t] (.tup [(readN s t).1.d, .int .i64 (readN s t).2]) := by
  have hN := secretN_bd s
  have hF := secretFault_sem s hs
  have hW := Words_sem t ht
  by_cases h0 : secretN s = 0
  · rw [h0] at hF
    by_cases h5 : (words t).length = 5
    · obtain ⟨w0, w1, w2, w3, w4, hw⟩ := five h5
      have hin : ∀ w ∈ words t, w.length ≤ t.length := fun w h => word_le h
      rw [hw] at hW hin
      have o1 : w1.length ≤ 9223372036854775807 := by have := hin w1 (by simp); omega
      have o2 : w2.length ≤ 9223372036854775807 := by have := hin w2 (by simp); omega
      have o3 : w3.length ≤ 9223372036854775807 := by have := hin w3 (by simp); omega
      have o4 : w4.length ≤ 9223372036854775807 := by have := hin w4 (by simp); omega
      have e : readN s t = read5 s t w0 w1 w2 w3 w4 := by
        unfold readN
        rw [if_neg (by simpa using h0), hw]
        rfl
      cases hg : noGap [w0, w1, w2, w3, w4]
      · rw [e, readW_gap hg]
        rw [hg, if_neg (by decide)] at hW
        refine sem_intro (M := fun t => mem t [4, 13, 2000013]) hT hM Tryd.func6 inferInstance rfl rfl rfl rfl rfl rfl ?_
        repeat' (
          (conv => whnf)
          first
            | ((try ((first | with_reducible apply NumE.go | with_reducible apply IdxE.go | with_reducible apply TextE.go | with_reducible apply LookE.go | with_reducible apply CallE.go); (conv => whnf))); (with_reducible apply SideD.mk); (focus ((first | (intro hc; have hc0 := hc; (try simp only [SPLT] at hc); (try refine And.intro (by first | exact hc0 | exact ⟨hc0, hc0⟩ | exact ⟨hc0, hc0, hc0⟩) ?_)) | skip); first | exact idx_nat (by assumption) | exact idx_some (by omega) (by assumption) | exact idx_eq (by assumption) (by omega) | ((try apply givesl); (focus (first | ((apply gives_go (hF)); (focus (first | exact DLes.refl _ | (repeat (first | exact DLes.nil | ((apply DLes.cons); (focus (first | exact DLe.refl _ | exact DLe.own _ _ | exact DLe.nil _ _ | exact DLe.any _))))))); (focus exact rfl); (all_goals (first | exact rfl | assumption | omega | (simp; omega) | (simp; done)))) | ((apply gives_go (hW)); (focus (first | exact DLes.refl _ | (repeat (first | exact DLes.nil | ((apply DLes.cons); (focus (first | exact DLe.refl _ | exact DLe.own _ _ | exact DLe.nil _ _ | exact DLe.any _))))))); (focus exact rfl); (all_goals (first | exact rfl | assumption | omega | (simp; omega) | (simp; done)))) | ((first | apply gives_go (secretFault_sem _ _) | apply gives_go (Words_sem _ _) | apply gives_go (isDigest_sem _ _) | apply gives_go (Number_sem _ _) | apply gives_go (receiptFault_sem _ _) | apply gives_go (receipt_sem _ _) | apply gives_go (seal_sem _ _ _ _)); (focus (first | exact DLes.refl _ | (repeat (first | exact DLes.nil | ((apply DLes.cons); (focus (first | exact DLe.refl _ | exact DLe.own _ _ | exact DLe.nil _ _ | exact DLe.any _))))))); (focus exact rfl); (all_goals (first | exact rfl | assumption | omega | (simp; omega) | (simp; done)))))); (all_goals exact rfl)) | (exact idx_void hc0 (by simp)) | exact IntWalk.i64_in _ (by omega) | exact IntWalk.u8_in _ (by omega) | exact IntWalk.u64_in _ (by omega) | exact IntWalk.i32_in _ (by omega) | exact rfl | exact ⟨by omega, rfl⟩ | exact ⟨rfl, rfl⟩ | assumption | exact ⟨by omega, by omega⟩ | exact ⟨by omega, by simp; omega⟩ | omega | exact ⟨rfl, rfl, by simp only [List.length_map, List.length_append, List.length_cons, List.length_nil]; omega⟩ | exact ⟨rfl, rfl, by simp; omega⟩ | exact ⟨rfl, rfl, by omega⟩ | exact ⟨rfl, by simp; omega⟩ | exact id | (intro h; simp [h]; done) | ((repeat (first | exact trivial | exact rfl | apply And.intro)); done) | (simp; omega) | (refine ⟨?_, ?_, ?_⟩ <;> first | omega | (simp; done) | (simp; omega)) | exact hc0 | exact ⟨hc0, hc0⟩ | exact ⟨hc0, hc0, hc0⟩ | (simp only [Bool.and_eq_true] at hc0; simp [hc0]; done) | (simp_all; done))))
            | ((first | with_reducible apply DrawR.go0 | with_reducible apply KerB.mk); (focus kernel_rfl))
            | (first | with_reducible apply ends_ret | with_reducible apply ends_norm | with_reducible apply Halt'.mk)
            | ((with_reducible apply CondD.mk) <;> intro hb <;> (try simp only [SPLT] at hb) <;> (try first | contradiction | exact absurd hb (by assumption) | exact absurd (by assumption) hb | (exfalso; omega) | (exfalso; simp at hb; done))))
        all_goals (try exact (false : Bool))
        repeat' ((conv => whnf); first | exact trivial | with_reducible apply And.intro | with_reducible apply endsO_ret | with_reducible apply endsO_norm | exact DLes.nil | with_reducible exact DLe.refl _ | exact DLe.any _ | with_reducible apply DLes.cons | with_reducible exact rle_refl | exact rle_bool rfl | exact rle_int rfl | exact rle_nil rfl | exact rle_sl0 rfl)
        all_goals (conv => whnf)
      · rw [hg, if_pos rfl] at hW
        have hD2 := isDigest_sem w2 o2
        have hD4 := isDigest_sem w4 o4
        by_cases hA : w0 = [114, 101, 99, 101, 105, 112, 116] ∧ isDig w2 = true ∧ isDig w4 = true
        · obtain ⟨a0, a2, a4⟩ := hA
          subst a0
          rw [a2] at hD2
          rw [a4] at hD4
          have hN1 := Number_sem w1 o1
          have hN3 := Number_sem w3 o3
          cases hc1 : (numN w1).2
          · rw [e, read5_no a2 a4 (by rw [hc1, Bool.false_and])]
            rw [hc1] at hN1
            refine sem_intro (M := fun t => mem t [4, 13, 2000013]) hT hM Tryd.func6 inferInstance rfl rfl rfl rfl rfl rfl ?_
            repeat' (
              (conv => whnf)
              first
                | ((try ((first | with_reducible apply NumE.go | with_reducible apply IdxE.go | with_reducible apply TextE.go | with_reducible apply LookE.go | with_reducible apply CallE.go); (conv => whnf))); (with_reducible apply SideD.mk); (focus ((first | (intro hc; have hc0 := hc; (try simp only [SPLT] at hc); (try refine And.intro (by first | exact hc0 | exact ⟨hc0, hc0⟩ | exact ⟨hc0, hc0, hc0⟩) ?_)) | skip); first | exact idx_nat (by assumption) | exact idx_some (by omega) (by assumption) | exact idx_eq (by assumption) (by omega) | ((try apply givesl); (focus (first | ((apply gives_go (hF)); (focus (first | exact DLes.refl _ | (repeat (first | exact DLes.nil | ((apply DLes.cons); (focus (first | exact DLe.refl _ | exact DLe.own _ _ | exact DLe.nil _ _ | exact DLe.any _))))))); (focus exact rfl); (all_goals (first | exact rfl | assumption | omega | (simp; omega) | (simp; done)))) | ((apply gives_go (hW)); (focus (first | exact DLes.refl _ | (repeat (first | exact DLes.nil | ((apply DLes.cons); (focus (first | exact DLe.refl _ | exact DLe.own _ _ | exact DLe.nil _ _ | exact DLe.any _))))))); (focus exact rfl); (all_goals (first | exact rfl | assumption | omega | (simp; omega) | (simp; done)))) | ((apply gives_go (hD2)); (focus (first | exact DLes.refl _ | (repeat (first | exact DLes.nil | ((apply DLes.cons); (focus (first | exact DLe.refl _ | exact DLe.own _ _ | exact DLe.nil _ _ | exact DLe.any _))))))); (focus exact rfl); (all_goals (first | exact rfl | assumption | omega | (simp; omega) | (simp; done)))) | ((apply gives_go (hD4)); (focus (first | exact DLes.refl _ | (repeat (first | exact DLes.nil | ((apply DLes.cons); (focus (first | exact DLe.refl _ | exact DLe.own _ _ | exact DLe.nil _ _ | exact DLe.any _))))))); (focus exact rfl); (all_goals (first | exact rfl | assumption | omega | (simp; omega) | (simp; done)))) | ((apply gives_go (hN1)); (focus (first | exact DLes.refl _ | (repeat (first | exact DLes.nil | ((apply DLes.cons); (focus (first | exact DLe.refl _ | exact DLe.own _ _ | exact DLe.nil _ _ | exact DLe.any _))))))); (focus exact rfl); (all_goals (first | exact rfl | assumption | omega | (simp; omega) | (simp; done)))) | ((apply gives_go (hN3)); (focus (first | exact DLes.refl _ | (repeat (first | exact DLes.nil | ((apply DLes.cons); (focus (first | exact DLe.refl _ | exact DLe.own _ _ | exact DLe.nil _ _ | exact DLe.any _))))))); (focus exact rfl); (all_goals (first | exact rfl | assumption | omega | (simp; omega) | (simp; done)))) | ((first | apply gives_go (secretFault_sem _ _) | apply gives_go (Words_sem _ _) | apply gives_go (isDigest_sem _ _) | apply gives_go (Number_sem _ _) | apply gives_go (receiptFault_sem _ _) | apply gives_go (receipt_sem _ _) | apply gives_go (seal_sem _ _ _ _)); (focus (first | exact DLes.refl _ | (repeat (first | exact DLes.nil | ((apply DLes.cons); (focus (first | exact DLe.refl _ | exact DLe.own _ _ | exact DLe.nil _ _ | exact DLe.any _))))))); (focus exact rfl); (all_goals (first | exact rfl | assumption | omega | (simp; omega) | (simp; done)))))); (all_goals exact rfl)) | exact IntWalk.i64_in _ (by omega) | exact IntWalk.u8_in _ (by omega) | exact IntWalk.u64_in _ (by omega) | exact IntWalk.i32_in _ (by omega) | exact rfl | exact ⟨by omega, rfl⟩ | exact ⟨rfl, rfl⟩ | assumption | exact ⟨by omega, by omega⟩ | exact ⟨by omega, by simp; omega⟩ | omega | exact ⟨rfl, rfl, by simp only [List.length_map, List.length_append, List.length_cons, List.length_nil]; omega⟩ | exact ⟨rfl, rfl, by simp; omega⟩ | exact ⟨rfl, rfl, by omega⟩ | exact ⟨rfl, by simp; omega⟩ | exact id | (intro h; simp [h]; done) | ((repeat (first | exact trivial | exact rfl | apply And.intro)); done) | (simp; omega) | (refine ⟨?_, ?_, ?_⟩ <;> first | omega | (simp; done) | (simp; omega)) | exact hc0 | exact ⟨hc0, hc0⟩ | exact ⟨hc0, hc0, hc0⟩ | (simp only [Bool.and_eq_true] at hc0; simp [hc0]; done) | (simp_all; done))))
                | ((first | with_reducible apply DrawR.go0 | with_reducible apply KerB.mk); (focus kernel_rfl))
                | (first | with_reducible apply ends_ret | with_reducible apply ends_norm | with_reducible apply Halt'.mk)
                | ((with_reducible apply CondD.mk) <;> intro hb <;> (try simp only [SPLT] at hb) <;> (try first | contradiction | exact absurd hb (by assumption) | exact absurd (by assumption) hb | (exfalso; omega) | (exfalso; simp at hb; done))))
            all_goals (try exact (false : Bool))
            repeat' ((conv => whnf); first | exact trivial | with_reducible apply And.intro | with_reducible apply endsO_ret | with_reducible apply endsO_norm | exact DLes.nil | with_reducible exact DLe.refl _ | exact DLe.any _ | with_reducible apply DLes.cons | with_reducible exact rle_refl | exact rle_bool rfl | exact rle_int rfl | exact rle_nil rfl | exact rle_sl0 rfl)
            all_goals (conv => whnf)
          · cases hc3 : (numN w3).2
            · rw [e, read5_no a2 a4 (by rw [hc3, Bool.and_false])]
              rw [hc1] at hN1
              rw [hc3] at hN3
              refine sem_intro (M := fun t => mem t [4, 13, 2000013]) hT hM Tryd.func6 inferInstance rfl rfl rfl rfl rfl rfl ?_
              repeat' (
                (conv => whnf)
                first
                  | ((try ((first | with_reducible apply NumE.go | with_reducible apply IdxE.go | with_reducible apply TextE.go | with_reducible apply LookE.go | with_reducible apply CallE.go); (conv => whnf))); (with_reducible apply SideD.mk); (focus ((first | (intro hc; have hc0 := hc; (try simp only [SPLT] at hc); (try refine And.intro (by first | exact hc0 | exact ⟨hc0, hc0⟩ | exact ⟨hc0, hc0, hc0⟩) ?_)) | skip); first | exact idx_nat (by assumption) | exact idx_some (by omega) (by assumption) | exact idx_eq (by assumption) (by omega) | ((try apply givesl); (focus (first | ((apply gives_go (hF)); (focus (first | exact DLes.refl _ | (repeat (first | exact DLes.nil | ((apply DLes.cons); (focus (first | exact DLe.refl _ | exact DLe.own _ _ | exact DLe.nil _ _ | exact DLe.any _))))))); (focus exact rfl); (all_goals (first | exact rfl | assumption | omega | (simp; omega) | (simp; done)))) | ((apply gives_go (hW)); (focus (first | exact DLes.refl _ | (repeat (first | exact DLes.nil | ((apply DLes.cons); (focus (first | exact DLe.refl _ | exact DLe.own _ _ | exact DLe.nil _ _ | exact DLe.any _))))))); (focus exact rfl); (all_goals (first | exact rfl | assumption | omega | (simp; omega) | (simp; done)))) | ((apply gives_go (hD2)); (focus (first | exact DLes.refl _ | (repeat (first | exact DLes.nil | ((apply DLes.cons); (focus (first | exact DLe.refl _ | exact DLe.own _ _ | exact DLe.nil _ _ | exact DLe.any _))))))); (focus exact rfl); (all_goals (first | exact rfl | assumption | omega | (simp; omega) | (simp; done)))) | ((apply gives_go (hD4)); (focus (first | exact DLes.refl _ | (repeat (first | exact DLes.nil | ((apply DLes.cons); (focus (first | exact DLe.refl _ | exact DLe.own _ _ | exact DLe.nil _ _ | exact DLe.any _))))))); (focus exact rfl); (all_goals (first | exact rfl | assumption | omega | (simp; omega) | (simp; done)))) | ((apply gives_go (hN1)); (focus (first | exact DLes.refl _ | (repeat (first | exact DLes.nil | ((apply DLes.cons); (focus (first | exact DLe.refl _ | exact DLe.own _ _ | exact DLe.nil _ _ | exact DLe.any _))))))); (focus exact rfl); (all_goals (first | exact rfl | assumption | omega | (simp; omega) | (simp; done)))) | ((apply gives_go (hN3)); (focus (first | exact DLes.refl _ | (repeat (first | exact DLes.nil | ((apply DLes.cons); (focus (first | exact DLe.refl _ | exact DLe.own _ _ | exact DLe.nil _ _ | exact DLe.any _))))))); (focus exact rfl); (all_goals (first | exact rfl | assumption | omega | (simp; omega) | (simp; done)))) | ((first | apply gives_go (secretFault_sem _ _) | apply gives_go (Words_sem _ _) | apply gives_go (isDigest_sem _ _) | apply gives_go (Number_sem _ _) | apply gives_go (receiptFault_sem _ _) | apply gives_go (receipt_sem _ _) | apply gives_go (seal_sem _ _ _ _)); (focus (first | exact DLes.refl _ | (repeat (first | exact DLes.nil | ((apply DLes.cons); (focus (first | exact DLe.refl _ | exact DLe.own _ _ | exact DLe.nil _ _ | exact DLe.any _))))))); (focus exact rfl); (all_goals (first | exact rfl | assumption | omega | (simp; omega) | (simp; done)))))); (all_goals exact rfl)) | exact IntWalk.i64_in _ (by omega) | exact IntWalk.u8_in _ (by omega) | exact IntWalk.u64_in _ (by omega) | exact IntWalk.i32_in _ (by omega) | exact rfl | exact ⟨by omega, rfl⟩ | exact ⟨rfl, rfl⟩ | assumption | exact ⟨by omega, by omega⟩ | exact ⟨by omega, by simp; omega⟩ | omega | exact ⟨rfl, rfl, by simp only [List.length_map, List.length_append, List.length_cons, List.length_nil]; omega⟩ | exact ⟨rfl, rfl, by simp; omega⟩ | exact ⟨rfl, rfl, by omega⟩ | exact ⟨rfl, by simp; omega⟩ | exact id | (intro h; simp [h]; done) | ((repeat (first | exact trivial | exact rfl | apply And.intro)); done) | (simp; omega) | (refine ⟨?_, ?_, ?_⟩ <;> first | omega | (simp; done) | (simp; omega)) | exact hc0 | exact ⟨hc0, hc0⟩ | exact ⟨hc0, hc0, hc0⟩ | (simp only [Bool.and_eq_true] at hc0; simp [hc0]; done) | (simp_all; done))))
                  | ((first | with_reducible apply DrawR.go0 | with_reducible apply KerB.mk); (focus kernel_rfl))
                  | (first | with_reducible apply ends_ret | with_reducible apply ends_norm | with_reducible apply Halt'.mk)
                  | ((with_reducible apply CondD.mk) <;> intro hb <;> (try simp only [SPLT] at hb) <;> (try first | contradiction | exact absurd hb (by assumption) | exact absurd (by assumption) hb | (exfalso; omega) | (exfalso; simp at hb; done))))
              all_goals (try exact (false : Bool))
              repeat' ((conv => whnf); first | exact trivial | with_reducible apply And.intro | with_reducible apply endsO_ret | with_reducible apply endsO_norm | exact DLes.nil | with_reducible exact DLe.refl _ | exact DLe.any _ | with_reducible apply DLes.cons | with_reducible exact rle_refl | exact rle_bool rfl | exact rle_int rfl | exact rle_nil rfl | exact rle_sl0 rfl)
              all_goals (conv => whnf)
            · obtain ⟨p1, p2, p3⟩ := numN_back hc1
              obtain ⟨q1, q2, q3⟩ := numN_back hc3
              have e2 := read5_yes (s := s) hw h0 a2 a4 hc1 hc3
              rw [hc1] at hN1
              rw [hc3] at hN3
              rw [e, e2]
              clear e e2
              generalize (numN w1).1 = n1 at *
              generalize (numN w3).1 = n3 at *
              have hR := receiptFault_sem ⟨n1, w2, n3⟩ ⟨o2, ⟨by simp only; omega, by simp only; omega⟩, ⟨by simp only; omega, by simp only; omega⟩⟩
              by_cases hP : 999999999999999 < n1 ∨ 1000000000000000 < n3
              · rw [proofN_far a2 p1 q1 hP] at hR
                rw [if_pos hP]
                refine sem_intro (M := fun t => mem t [4, 13, 2000013]) hT hM Tryd.func6 inferInstance rfl rfl rfl rfl rfl rfl ?_
                repeat' (
                  (conv => whnf)
                  first
                    | ((try ((first | with_reducible apply NumE.go | with_reducible apply IdxE.go | with_reducible apply TextE.go | with_reducible apply LookE.go | with_reducible apply CallE.go); (conv => whnf))); (with_reducible apply SideD.mk); (focus ((first | (intro hc; have hc0 := hc; (try simp only [SPLT] at hc); (try refine And.intro (by first | exact hc0 | exact ⟨hc0, hc0⟩ | exact ⟨hc0, hc0, hc0⟩) ?_)) | skip); first | exact idx_nat (by assumption) | exact idx_some (by omega) (by assumption) | exact idx_eq (by assumption) (by omega) | ((try apply givesl); (focus (first | ((apply gives_go (hF)); (focus (first | exact DLes.refl _ | (repeat (first | exact DLes.nil | ((apply DLes.cons); (focus (first | exact DLe.refl _ | exact DLe.own _ _ | exact DLe.nil _ _ | exact DLe.any _))))))); (focus exact rfl); (all_goals (first | exact rfl | assumption | omega | (simp; omega) | (simp; done)))) | ((apply gives_go (hW)); (focus (first | exact DLes.refl _ | (repeat (first | exact DLes.nil | ((apply DLes.cons); (focus (first | exact DLe.refl _ | exact DLe.own _ _ | exact DLe.nil _ _ | exact DLe.any _))))))); (focus exact rfl); (all_goals (first | exact rfl | assumption | omega | (simp; omega) | (simp; done)))) | ((apply gives_go (hD2)); (focus (first | exact DLes.refl _ | (repeat (first | exact DLes.nil | ((apply DLes.cons); (focus (first | exact DLe.refl _ | exact DLe.own _ _ | exact DLe.nil _ _ | exact DLe.any _))))))); (focus exact rfl); (all_goals (first | exact rfl | assumption | omega | (simp; omega) | (simp; done)))) | ((apply gives_go (hD4)); (focus (first | exact DLes.refl _ | (repeat (first | exact DLes.nil | ((apply DLes.cons); (focus (first | exact DLe.refl _ | exact DLe.own _ _ | exact DLe.nil _ _ | exact DLe.any _))))))); (focus exact rfl); (all_goals (first | exact rfl | assumption | omega | (simp; omega) | (simp; done)))) | ((apply gives_go (hN1)); (focus (first | exact DLes.refl _ | (repeat (first | exact DLes.nil | ((apply DLes.cons); (focus (first | exact DLe.refl _ | exact DLe.own _ _ | exact DLe.nil _ _ | exact DLe.any _))))))); (focus exact rfl); (all_goals (first | exact rfl | assumption | omega | (simp; omega) | (simp; done)))) | ((apply gives_go (hN3)); (focus (first | exact DLes.refl _ | (repeat (first | exact DLes.nil | ((apply DLes.cons); (focus (first | exact DLe.refl _ | exact DLe.own _ _ | exact DLe.nil _ _ | exact DLe.any _))))))); (focus exact rfl); (all_goals (first | exact rfl | assumption | omega | (simp; omega) | (simp; done)))) | ((apply gives_go (hR)); (focus (first | exact DLes.refl _ | (repeat (first | exact DLes.nil | ((apply DLes.cons); (focus (first | exact DLe.refl _ | exact DLe.own _ _ | exact DLe.nil _ _ | exact DLe.any _))))))); (focus exact rfl); (all_goals (first | exact rfl | assumption | omega | (simp; omega) | (simp; done)))) | ((first | apply gives_go (secretFault_sem _ _) | apply gives_go (Words_sem _ _) | apply gives_go (isDigest_sem _ _) | apply gives_go (Number_sem _ _) | apply gives_go (receiptFault_sem _ _) | apply gives_go (receipt_sem _ _) | apply gives_go (seal_sem _ _ _ _)); (focus (first | exact DLes.refl _ | (repeat (first | exact DLes.nil | ((apply DLes.cons); (focus (first | exact DLe.refl _ | exact DLe.own _ _ | exact DLe.nil _ _ | exact DLe.any _))))))); (focus exact rfl); (all_goals (first | exact rfl | assumption | omega | (simp; omega) | (simp; done)))))); (all_goals exact rfl)) | exact IntWalk.i64_in _ (by omega) | exact IntWalk.u8_in _ (by omega) | exact IntWalk.u64_in _ (by omega) | exact IntWalk.i32_in _ (by omega) | exact rfl | exact ⟨by omega, rfl⟩ | exact ⟨rfl, rfl⟩ | assumption | exact ⟨by omega, by omega⟩ | exact ⟨by omega, by simp; omega⟩ | omega | exact ⟨rfl, rfl, by simp only [List.length_map, List.length_append, List.length_cons, List.length_nil]; omega⟩ | exact ⟨rfl, rfl, by simp; omega⟩ | exact ⟨rfl, rfl, by omega⟩ | exact ⟨rfl, by simp; omega⟩ | exact id | (intro h; simp [h]; done) | ((repeat (first | exact trivial | exact rfl | apply And.intro)); done) | (simp; omega) | (refine ⟨?_, ?_, ?_⟩ <;> first | omega | (simp; done) | (simp; omega)) | exact hc0 | exact ⟨hc0, hc0⟩ | exact ⟨hc0, hc0, hc0⟩ | (simp only [Bool.and_eq_true] at hc0; simp [hc0]; done) | (simp_all; done))))
                    | ((first | with_reducible apply DrawR.go0 | with_reducible apply KerB.mk); (focus kernel_rfl))
                    | (first | with_reducible apply ends_ret | with_reducible apply ends_norm | with_reducible apply Halt'.mk)
                    | ((with_reducible apply CondD.mk) <;> intro hb <;> (try simp only [SPLT] at hb) <;> (try first | contradiction | exact absurd hb (by assumption) | exact absurd (by assumption) hb | (exfalso; omega) | (exfalso; simp at hb; done))))
                all_goals (try exact (false : Bool))
                repeat' ((conv => whnf); first | exact trivial | with_reducible apply And.intro | with_reducible apply endsO_ret | with_reducible apply endsO_norm | exact DLes.nil | with_reducible exact DLe.refl _ | exact DLe.any _ | with_reducible apply DLes.cons | with_reducible exact rle_refl | exact rle_bool rfl | exact rle_int rfl | exact rle_nil rfl | exact rle_sl0 rfl)
                all_goals (conv => whnf)
              · have hp0 := proofN_near a2 p1 q1 hP
                have hRc := receipt_sem ⟨n1, w2, n3⟩ hp0
                have hl := receiptN_len hp0
                have hS := seal_sem s (receiptN ⟨n1, w2, n3⟩) (by omega) (by omega)
                rw [hp0] at hR
                rw [if_neg hP]
                generalize sealN s (receiptN ⟨n1, w2, n3⟩) = u at hS ⊢
                generalize receiptN ⟨n1, w2, n3⟩ = v at hRc hl hS
                by_cases hu : u = w4
                · rw [if_pos hu]
                  refine sem_intro (M := fun t => mem t [4, 13, 2000013]) hT hM Tryd.func6 inferInstance rfl rfl rfl rfl rfl rfl ?_
                  repeat' (
                    (conv => whnf)
                    first
                      | ((try ((first | with_reducible apply NumE.go | with_reducible apply IdxE.go | with_reducible apply TextE.go | with_reducible apply LookE.go | with_reducible apply CallE.go); (conv => whnf))); (with_reducible apply SideD.mk); (focus ((first | (intro hc; have hc0 := hc; (try simp only [SPLT] at hc); (try refine And.intro (by first | exact hc0 | exact ⟨hc0, hc0⟩ | exact ⟨hc0, hc0, hc0⟩) ?_)) | skip); first | exact idx_nat (by assumption) | exact idx_some (by omega) (by assumption) | exact idx_eq (by assumption) (by omega) | ((try apply givesl); (focus (first | ((apply gives_go (hF)); (focus (first | exact DLes.refl _ | (repeat (first | exact DLes.nil | ((apply DLes.cons); (focus (first | exact DLe.refl _ | exact DLe.own _ _ | exact DLe.nil _ _ | exact DLe.any _))))))); (focus exact rfl); (all_goals (first | exact rfl | assumption | omega | (simp; omega) | (simp; done)))) | ((apply gives_go (hW)); (focus (first | exact DLes.refl _ | (repeat (first | exact DLes.nil | ((apply DLes.cons); (focus (first | exact DLe.refl _ | exact DLe.own _ _ | exact DLe.nil _ _ | exact DLe.any _))))))); (focus exact rfl); (all_goals (first | exact rfl | assumption | omega | (simp; omega) | (simp; done)))) | ((apply gives_go (hD2)); (focus (first | exact DLes.refl _ | (repeat (first | exact DLes.nil | ((apply DLes.cons); (focus (first | exact DLe.refl _ | exact DLe.own _ _ | exact DLe.nil _ _ | exact DLe.any _))))))); (focus exact rfl); (all_goals (first | exact rfl | assumption | omega | (simp; omega) | (simp; done)))) | ((apply gives_go (hD4)); (focus (first | exact DLes.refl _ | (repeat (first | exact DLes.nil | ((apply DLes.cons); (focus (first | exact DLe.refl _ | exact DLe.own _ _ | exact DLe.nil _ _ | exact DLe.any _))))))); (focus exact rfl); (all_goals (first | exact rfl | assumption | omega | (simp; omega) | (simp; done)))) | ((apply gives_go (hN1)); (focus (first | exact DLes.refl _ | (repeat (first | exact DLes.nil | ((apply DLes.cons); (focus (first | exact DLe.refl _ | exact DLe.own _ _ | exact DLe.nil _ _ | exact DLe.any _))))))); (focus exact rfl); (all_goals (first | exact rfl | assumption | omega | (simp; omega) | (simp; done)))) | ((apply gives_go (hN3)); (focus (first | exact DLes.refl _ | (repeat (first | exact DLes.nil | ((apply DLes.cons); (focus (first | exact DLe.refl _ | exact DLe.own _ _ | exact DLe.nil _ _ | exact DLe.any _))))))); (focus exact rfl); (all_goals (first | exact rfl | assumption | omega | (simp; omega) | (simp; done)))) | ((apply gives_go (hR)); (focus (first | exact DLes.refl _ | (repeat (first | exact DLes.nil | ((apply DLes.cons); (focus (first | exact DLe.refl _ | exact DLe.own _ _ | exact DLe.nil _ _ | exact DLe.any _))))))); (focus exact rfl); (all_goals (first | exact rfl | assumption | omega | (simp; omega) | (simp; done)))) | ((apply gives_go (hRc)); (focus (first | exact DLes.refl _ | (repeat (first | exact DLes.nil | ((apply DLes.cons); (focus (first | exact DLe.refl _ | exact DLe.own _ _ | exact DLe.nil _ _ | exact DLe.any _))))))); (focus exact rfl); (all_goals (first | exact rfl | assumption | omega | (simp; omega) | (simp; done)))) | ((apply gives_go (hS)); (focus (first | exact DLes.refl _ | (repeat (first | exact DLes.nil | ((apply DLes.cons); (focus (first | exact DLe.refl _ | exact DLe.own _ _ | exact DLe.nil _ _ | exact DLe.any _))))))); (focus exact rfl); (all_goals (first | exact rfl | assumption | omega | (simp; omega) | (simp; done)))) | ((first | apply gives_go (secretFault_sem _ _) | apply gives_go (Words_sem _ _) | apply gives_go (isDigest_sem _ _) | apply gives_go (Number_sem _ _) | apply gives_go (receiptFault_sem _ _) | apply gives_go (receipt_sem _ _) | apply gives_go (seal_sem _ _ _ _)); (focus (first | exact DLes.refl _ | (repeat (first | exact DLes.nil | ((apply DLes.cons); (focus (first | exact DLe.refl _ | exact DLe.own _ _ | exact DLe.nil _ _ | exact DLe.any _))))))); (focus exact rfl); (all_goals (first | exact rfl | assumption | omega | (simp; omega) | (simp; done)))))); (all_goals exact rfl)) | exact IntWalk.i64_in _ (by omega) | exact IntWalk.u8_in _ (by omega) | exact IntWalk.u64_in _ (by omega) | exact IntWalk.i32_in _ (by omega) | exact rfl | exact ⟨by omega, rfl⟩ | exact ⟨rfl, rfl⟩ | assumption | exact ⟨by omega, by omega⟩ | exact ⟨by omega, by simp; omega⟩ | omega | exact ⟨rfl, rfl, by simp only [List.length_map, List.length_append, List.length_cons, List.length_nil]; omega⟩ | exact ⟨rfl, rfl, by simp; omega⟩ | exact ⟨rfl, rfl, by omega⟩ | exact ⟨rfl, by simp; omega⟩ | exact id | (intro h; simp [h]; done) | ((repeat (first | exact trivial | exact rfl | apply And.intro)); done) | (simp; omega) | (refine ⟨?_, ?_, ?_⟩ <;> first | omega | (simp; done) | (simp; omega)) | exact hc0 | exact ⟨hc0, hc0⟩ | exact ⟨hc0, hc0, hc0⟩ | (simp only [Bool.and_eq_true] at hc0; simp [hc0]; done) | (simp_all; done))))
                      | ((first | with_reducible apply DrawR.go0 | with_reducible apply KerB.mk); (focus kernel_rfl))
                      | (first | with_reducible apply ends_ret | with_reducible apply ends_norm | with_reducible apply Halt'.mk)
                      | ((with_reducible apply CondD.mk) <;> intro hb <;> (try simp only [SPLT] at hb) <;> (try first | contradiction | exact absurd hb (by assumption) | exact absurd (by assumption) hb | (exfalso; omega) | (exfalso; simp at hb; done))))
                  all_goals (try exact (false : Bool))
                  repeat' ((conv => whnf); first | exact trivial | with_reducible apply And.intro | with_reducible apply endsO_ret | with_reducible apply endsO_norm | exact DLes.nil | with_reducible exact DLe.refl _ | exact DLe.any _ | with_reducible apply DLes.cons | with_reducible exact rle_refl | exact rle_bool rfl | exact rle_int rfl | exact rle_nil rfl | exact rle_sl0 rfl)
                  all_goals (conv => whnf)
                · rw [if_neg hu]
                  refine sem_intro (M := fun t => mem t [4, 13, 2000013]) hT hM Tryd.func6 inferInstance rfl rfl rfl rfl rfl rfl ?_
                  repeat' (
                    (conv => whnf)
                    first
                      | ((try ((first | with_reducible apply NumE.go | with_reducible apply IdxE.go | with_reducible apply TextE.go | with_reducible apply LookE.go | with_reducible apply CallE.go); (conv => whnf))); (with_reducible apply SideD.mk); (focus ((first | (intro hc; have hc0 := hc; (try simp only [SPLT] at hc); (try refine And.intro (by first | exact hc0 | exact ⟨hc0, hc0⟩ | exact ⟨hc0, hc0, hc0⟩) ?_)) | skip); first | exact idx_nat (by assumption) | exact idx_some (by omega) (by assumption) | exact idx_eq (by assumption) (by omega) | ((try apply givesl); (focus (first | ((apply gives_go (hF)); (focus (first | exact DLes.refl _ | (repeat (first | exact DLes.nil | ((apply DLes.cons); (focus (first | exact DLe.refl _ | exact DLe.own _ _ | exact DLe.nil _ _ | exact DLe.any _))))))); (focus exact rfl); (all_goals (first | exact rfl | assumption | omega | (simp; omega) | (simp; done)))) | ((apply gives_go (hW)); (focus (first | exact DLes.refl _ | (repeat (first | exact DLes.nil | ((apply DLes.cons); (focus (first | exact DLe.refl _ | exact DLe.own _ _ | exact DLe.nil _ _ | exact DLe.any _))))))); (focus exact rfl); (all_goals (first | exact rfl | assumption | omega | (simp; omega) | (simp; done)))) | ((apply gives_go (hD2)); (focus (first | exact DLes.refl _ | (repeat (first | exact DLes.nil | ((apply DLes.cons); (focus (first | exact DLe.refl _ | exact DLe.own _ _ | exact DLe.nil _ _ | exact DLe.any _))))))); (focus exact rfl); (all_goals (first | exact rfl | assumption | omega | (simp; omega) | (simp; done)))) | ((apply gives_go (hD4)); (focus (first | exact DLes.refl _ | (repeat (first | exact DLes.nil | ((apply DLes.cons); (focus (first | exact DLe.refl _ | exact DLe.own _ _ | exact DLe.nil _ _ | exact DLe.any _))))))); (focus exact rfl); (all_goals (first | exact rfl | assumption | omega | (simp; omega) | (simp; done)))) | ((apply gives_go (hN1)); (focus (first | exact DLes.refl _ | (repeat (first | exact DLes.nil | ((apply DLes.cons); (focus (first | exact DLe.refl _ | exact DLe.own _ _ | exact DLe.nil _ _ | exact DLe.any _))))))); (focus exact rfl); (all_goals (first | exact rfl | assumption | omega | (simp; omega) | (simp; done)))) | ((apply gives_go (hN3)); (focus (first | exact DLes.refl _ | (repeat (first | exact DLes.nil | ((apply DLes.cons); (focus (first | exact DLe.refl _ | exact DLe.own _ _ | exact DLe.nil _ _ | exact DLe.any _))))))); (focus exact rfl); (all_goals (first | exact rfl | assumption | omega | (simp; omega) | (simp; done)))) | ((apply gives_go (hR)); (focus (first | exact DLes.refl _ | (repeat (first | exact DLes.nil | ((apply DLes.cons); (focus (first | exact DLe.refl _ | exact DLe.own _ _ | exact DLe.nil _ _ | exact DLe.any _))))))); (focus exact rfl); (all_goals (first | exact rfl | assumption | omega | (simp; omega) | (simp; done)))) | ((apply gives_go (hRc)); (focus (first | exact DLes.refl _ | (repeat (first | exact DLes.nil | ((apply DLes.cons); (focus (first | exact DLe.refl _ | exact DLe.own _ _ | exact DLe.nil _ _ | exact DLe.any _))))))); (focus exact rfl); (all_goals (first | exact rfl | assumption | omega | (simp; omega) | (simp; done)))) | ((apply gives_go (hS)); (focus (first | exact DLes.refl _ | (repeat (first | exact DLes.nil | ((apply DLes.cons); (focus (first | exact DLe.refl _ | exact DLe.own _ _ | exact DLe.nil _ _ | exact DLe.any _))))))); (focus exact rfl); (all_goals (first | exact rfl | assumption | omega | (simp; omega) | (simp; done)))) | ((first | apply gives_go (secretFault_sem _ _) | apply gives_go (Words_sem _ _) | apply gives_go (isDigest_sem _ _) | apply gives_go (Number_sem _ _) | apply gives_go (receiptFault_sem _ _) | apply gives_go (receipt_sem _ _) | apply gives_go (seal_sem _ _ _ _)); (focus (first | exact DLes.refl _ | (repeat (first | exact DLes.nil | ((apply DLes.cons); (focus (first | exact DLe.refl _ | exact DLe.own _ _ | exact DLe.nil _ _ | exact DLe.any _))))))); (focus exact rfl); (all_goals (first | exact rfl | assumption | omega | (simp; omega) | (simp; done)))))); (all_goals exact rfl)) | exact IntWalk.i64_in _ (by omega) | exact IntWalk.u8_in _ (by omega) | exact IntWalk.u64_in _ (by omega) | exact IntWalk.i32_in _ (by omega) | exact rfl | exact ⟨by omega, rfl⟩ | exact ⟨rfl, rfl⟩ | assumption | exact ⟨by omega, by omega⟩ | exact ⟨by omega, by simp; omega⟩ | omega | exact ⟨rfl, rfl, by simp only [List.length_map, List.length_append, List.length_cons, List.length_nil]; omega⟩ | exact ⟨rfl, rfl, by simp; omega⟩ | exact ⟨rfl, rfl, by omega⟩ | exact ⟨rfl, by simp; omega⟩ | exact id | (intro h; simp [h]; done) | ((repeat (first | exact trivial | exact rfl | apply And.intro)); done) | (simp; omega) | (refine ⟨?_, ?_, ?_⟩ <;> first | omega | (simp; done) | (simp; omega)) | exact hc0 | exact ⟨hc0, hc0⟩ | exact ⟨hc0, hc0, hc0⟩ | (simp only [Bool.and_eq_true] at hc0; simp [hc0]; done) | (simp_all; done))))
                      | ((first | with_reducible apply DrawR.go0 | with_reducible apply KerB.mk); (focus kernel_rfl))
                      | (first | with_reducible apply ends_ret | with_reducible apply ends_norm | with_reducible apply Halt'.mk)
                      | ((with_reducible apply CondD.mk) <;> intro hb <;> (try simp only [SPLT] at hb) <;> (try first | contradiction | exact absurd hb (by assumption) | exact absurd (by assumption) hb | (exfalso; omega) | (exfalso; simp at hb; done))))
                  all_goals (try exact (false : Bool))
                  repeat' ((conv => whnf); first | exact trivial | with_reducible apply And.intro | with_reducible apply endsO_ret | with_reducible apply endsO_norm | exact DLes.nil | with_reducible exact DLe.refl _ | exact DLe.any _ | with_reducible apply DLes.cons | with_reducible exact rle_refl | exact rle_bool rfl | exact rle_int rfl | exact rle_nil rfl | exact rle_sl0 rfl)
                  all_goals (conv => whnf)
        · have hr : read5 s t w0 w1 w2 w3 w4 = (zP, 10) := by
            unfold read5
            rw [if_pos]
            cases hq : (w0 == [114, 101, 99, 101, 105, 112, 116] && isDig w2 && isDig w4)
            · rfl
            · exfalso
              apply hA
              simpa [and_assoc] using hq
          rw [e, hr]
          generalize isDig w2 = b2 at hA hD2
          generalize isDig w4 = b4 at hA hD4
          cases b2 <;> cases b4
          · refine sem_intro (M := fun t => mem t [4, 13, 2000013]) hT hM Tryd.func6 inferInstance rfl rfl rfl rfl rfl rfl ?_
            repeat' (
              (conv => whnf)
              first
                | ((try ((first | with_reducible apply NumE.go | with_reducible apply IdxE.go | with_reducible apply TextE.go | with_reducible apply LookE.go | with_reducible apply CallE.go); (conv => whnf))); (with_reducible apply SideD.mk); (focus ((first | (intro hc; have hc0 := hc; (try simp only [SPLT] at hc); (try refine And.intro (by first | exact hc0 | exact ⟨hc0, hc0⟩ | exact ⟨hc0, hc0, hc0⟩) ?_)) | skip); first | exact idx_nat (by assumption) | exact idx_some (by omega) (by assumption) | exact idx_eq (by assumption) (by omega) | ((try apply givesl); (focus (first | ((apply gives_go (hF)); (focus (first | exact DLes.refl _ | (repeat (first | exact DLes.nil | ((apply DLes.cons); (focus (first | exact DLe.refl _ | exact DLe.own _ _ | exact DLe.nil _ _ | exact DLe.any _))))))); (focus exact rfl); (all_goals (first | exact rfl | assumption | omega | (simp; omega) | (simp; done)))) | ((apply gives_go (hW)); (focus (first | exact DLes.refl _ | (repeat (first | exact DLes.nil | ((apply DLes.cons); (focus (first | exact DLe.refl _ | exact DLe.own _ _ | exact DLe.nil _ _ | exact DLe.any _))))))); (focus exact rfl); (all_goals (first | exact rfl | assumption | omega | (simp; omega) | (simp; done)))) | ((apply gives_go (hD2)); (focus (first | exact DLes.refl _ | (repeat (first | exact DLes.nil | ((apply DLes.cons); (focus (first | exact DLe.refl _ | exact DLe.own _ _ | exact DLe.nil _ _ | exact DLe.any _))))))); (focus exact rfl); (all_goals (first | exact rfl | assumption | omega | (simp; omega) | (simp; done)))) | ((apply gives_go (hD4)); (focus (first | exact DLes.refl _ | (repeat (first | exact DLes.nil | ((apply DLes.cons); (focus (first | exact DLe.refl _ | exact DLe.own _ _ | exact DLe.nil _ _ | exact DLe.any _))))))); (focus exact rfl); (all_goals (first | exact rfl | assumption | omega | (simp; omega) | (simp; done)))) | ((first | apply gives_go (secretFault_sem _ _) | apply gives_go (Words_sem _ _) | apply gives_go (isDigest_sem _ _) | apply gives_go (Number_sem _ _) | apply gives_go (receiptFault_sem _ _) | apply gives_go (receipt_sem _ _) | apply gives_go (seal_sem _ _ _ _)); (focus (first | exact DLes.refl _ | (repeat (first | exact DLes.nil | ((apply DLes.cons); (focus (first | exact DLe.refl _ | exact DLe.own _ _ | exact DLe.nil _ _ | exact DLe.any _))))))); (focus exact rfl); (all_goals (first | exact rfl | assumption | omega | (simp; omega) | (simp; done)))))); (all_goals exact rfl)) | exact IntWalk.i64_in _ (by omega) | exact IntWalk.u8_in _ (by omega) | exact IntWalk.u64_in _ (by omega) | exact IntWalk.i32_in _ (by omega) | exact rfl | exact ⟨by omega, rfl⟩ | exact ⟨rfl, rfl⟩ | assumption | exact ⟨by omega, by omega⟩ | exact ⟨by omega, by simp; omega⟩ | omega | exact ⟨rfl, rfl, by simp only [List.length_map, List.length_append, List.length_cons, List.length_nil]; omega⟩ | exact ⟨rfl, rfl, by simp; omega⟩ | exact ⟨rfl, rfl, by omega⟩ | exact ⟨rfl, by simp; omega⟩ | exact id | (intro h; simp [h]; done) | ((repeat (first | exact trivial | exact rfl | apply And.intro)); done) | (simp; omega) | (refine ⟨?_, ?_, ?_⟩ <;> first | omega | (simp; done) | (simp; omega)) | exact hc0 | exact ⟨hc0, hc0⟩ | exact ⟨hc0, hc0, hc0⟩ | (simp only [Bool.and_eq_true] at hc0; simp [hc0]; done) | (simp_all; done))))
                | ((first | with_reducible apply DrawR.go0 | with_reducible apply KerB.mk); (focus kernel_rfl))
                | (first | with_reducible apply ends_ret | with_reducible apply ends_norm | with_reducible apply Halt'.mk)
                | ((with_reducible apply CondD.mk) <;> intro hb <;> (try simp only [SPLT] at hb) <;> (try first | contradiction | exact absurd hb (by assumption) | exact absurd (by assumption) hb | (exfalso; omega) | (exfalso; simp at hb; done))))
            all_goals (try exact (false : Bool))
            repeat' ((conv => whnf); first | exact trivial | with_reducible apply And.intro | with_reducible apply endsO_ret | with_reducible apply endsO_norm | exact DLes.nil | with_reducible exact DLe.refl _ | exact DLe.any _ | with_reducible apply DLes.cons | with_reducible exact rle_refl | exact rle_bool rfl | exact rle_int rfl | exact rle_nil rfl | exact rle_sl0 rfl)
            all_goals (conv => whnf)
          · refine sem_intro (M := fun t => mem t [4, 13, 2000013]) hT hM Tryd.func6 inferInstance rfl rfl rfl rfl rfl rfl ?_
            repeat' (
              (conv => whnf)
              first
                | ((try ((first | with_reducible apply NumE.go | with_reducible apply IdxE.go | with_reducible apply TextE.go | with_reducible apply LookE.go | with_reducible apply CallE.go); (conv => whnf))); (with_reducible apply SideD.mk); (focus ((first | (intro hc; have hc0 := hc; (try simp only [SPLT] at hc); (try refine And.intro (by first | exact hc0 | exact ⟨hc0, hc0⟩ | exact ⟨hc0, hc0, hc0⟩) ?_)) | skip); first | exact idx_nat (by assumption) | exact idx_some (by omega) (by assumption) | exact idx_eq (by assumption) (by omega) | ((try apply givesl); (focus (first | ((apply gives_go (hF)); (focus (first | exact DLes.refl _ | (repeat (first | exact DLes.nil | ((apply DLes.cons); (focus (first | exact DLe.refl _ | exact DLe.own _ _ | exact DLe.nil _ _ | exact DLe.any _))))))); (focus exact rfl); (all_goals (first | exact rfl | assumption | omega | (simp; omega) | (simp; done)))) | ((apply gives_go (hW)); (focus (first | exact DLes.refl _ | (repeat (first | exact DLes.nil | ((apply DLes.cons); (focus (first | exact DLe.refl _ | exact DLe.own _ _ | exact DLe.nil _ _ | exact DLe.any _))))))); (focus exact rfl); (all_goals (first | exact rfl | assumption | omega | (simp; omega) | (simp; done)))) | ((apply gives_go (hD2)); (focus (first | exact DLes.refl _ | (repeat (first | exact DLes.nil | ((apply DLes.cons); (focus (first | exact DLe.refl _ | exact DLe.own _ _ | exact DLe.nil _ _ | exact DLe.any _))))))); (focus exact rfl); (all_goals (first | exact rfl | assumption | omega | (simp; omega) | (simp; done)))) | ((apply gives_go (hD4)); (focus (first | exact DLes.refl _ | (repeat (first | exact DLes.nil | ((apply DLes.cons); (focus (first | exact DLe.refl _ | exact DLe.own _ _ | exact DLe.nil _ _ | exact DLe.any _))))))); (focus exact rfl); (all_goals (first | exact rfl | assumption | omega | (simp; omega) | (simp; done)))) | ((first | apply gives_go (secretFault_sem _ _) | apply gives_go (Words_sem _ _) | apply gives_go (isDigest_sem _ _) | apply gives_go (Number_sem _ _) | apply gives_go (receiptFault_sem _ _) | apply gives_go (receipt_sem _ _) | apply gives_go (seal_sem _ _ _ _)); (focus (first | exact DLes.refl _ | (repeat (first | exact DLes.nil | ((apply DLes.cons); (focus (first | exact DLe.refl _ | exact DLe.own _ _ | exact DLe.nil _ _ | exact DLe.any _))))))); (focus exact rfl); (all_goals (first | exact rfl | assumption | omega | (simp; omega) | (simp; done)))))); (all_goals exact rfl)) | exact IntWalk.i64_in _ (by omega) | exact IntWalk.u8_in _ (by omega) | exact IntWalk.u64_in _ (by omega) | exact IntWalk.i32_in _ (by omega) | exact rfl | exact ⟨by omega, rfl⟩ | exact ⟨rfl, rfl⟩ | assumption | exact ⟨by omega, by omega⟩ | exact ⟨by omega, by simp; omega⟩ | omega | exact ⟨rfl, rfl, by simp only [List.length_map, List.length_append, List.length_cons, List.length_nil]; omega⟩ | exact ⟨rfl, rfl, by simp; omega⟩ | exact ⟨rfl, rfl, by omega⟩ | exact ⟨rfl, by simp; omega⟩ | exact id | (intro h; simp [h]; done) | ((repeat (first | exact trivial | exact rfl | apply And.intro)); done) | (simp; omega) | (refine ⟨?_, ?_, ?_⟩ <;> first | omega | (simp; done) | (simp; omega)) | exact hc0 | exact ⟨hc0, hc0⟩ | exact ⟨hc0, hc0, hc0⟩ | (simp only [Bool.and_eq_true] at hc0; simp [hc0]; done) | (simp_all; done))))
                | ((first | with_reducible apply DrawR.go0 | with_reducible apply KerB.mk); (focus kernel_rfl))
                | (first | with_reducible apply ends_ret | with_reducible apply ends_norm | with_reducible apply Halt'.mk)
                | ((with_reducible apply CondD.mk) <;> intro hb <;> (try simp only [SPLT] at hb) <;> (try first | contradiction | exact absurd hb (by assumption) | exact absurd (by assumption) hb | (exfalso; omega) | (exfalso; simp at hb; done))))
            all_goals (try exact (false : Bool))
            repeat' ((conv => whnf); first | exact trivial | with_reducible apply And.intro | with_reducible apply endsO_ret | with_reducible apply endsO_norm | exact DLes.nil | with_reducible exact DLe.refl _ | exact DLe.any _ | with_reducible apply DLes.cons | with_reducible exact rle_refl | exact rle_bool rfl | exact rle_int rfl | exact rle_nil rfl | exact rle_sl0 rfl)
            all_goals (conv => whnf)
          · refine sem_intro (M := fun t => mem t [4, 13, 2000013]) hT hM Tryd.func6 inferInstance rfl rfl rfl rfl rfl rfl ?_
            repeat' (
              (conv => whnf)
              first
                | ((try ((first | with_reducible apply NumE.go | with_reducible apply IdxE.go | with_reducible apply TextE.go | with_reducible apply LookE.go | with_reducible apply CallE.go); (conv => whnf))); (with_reducible apply SideD.mk); (focus ((first | (intro hc; have hc0 := hc; (try simp only [SPLT] at hc); (try refine And.intro (by first | exact hc0 | exact ⟨hc0, hc0⟩ | exact ⟨hc0, hc0, hc0⟩) ?_)) | skip); first | exact idx_nat (by assumption) | exact idx_some (by omega) (by assumption) | exact idx_eq (by assumption) (by omega) | ((try apply givesl); (focus (first | ((apply gives_go (hF)); (focus (first | exact DLes.refl _ | (repeat (first | exact DLes.nil | ((apply DLes.cons); (focus (first | exact DLe.refl _ | exact DLe.own _ _ | exact DLe.nil _ _ | exact DLe.any _))))))); (focus exact rfl); (all_goals (first | exact rfl | assumption | omega | (simp; omega) | (simp; done)))) | ((apply gives_go (hW)); (focus (first | exact DLes.refl _ | (repeat (first | exact DLes.nil | ((apply DLes.cons); (focus (first | exact DLe.refl _ | exact DLe.own _ _ | exact DLe.nil _ _ | exact DLe.any _))))))); (focus exact rfl); (all_goals (first | exact rfl | assumption | omega | (simp; omega) | (simp; done)))) | ((apply gives_go (hD2)); (focus (first | exact DLes.refl _ | (repeat (first | exact DLes.nil | ((apply DLes.cons); (focus (first | exact DLe.refl _ | exact DLe.own _ _ | exact DLe.nil _ _ | exact DLe.any _))))))); (focus exact rfl); (all_goals (first | exact rfl | assumption | omega | (simp; omega) | (simp; done)))) | ((apply gives_go (hD4)); (focus (first | exact DLes.refl _ | (repeat (first | exact DLes.nil | ((apply DLes.cons); (focus (first | exact DLe.refl _ | exact DLe.own _ _ | exact DLe.nil _ _ | exact DLe.any _))))))); (focus exact rfl); (all_goals (first | exact rfl | assumption | omega | (simp; omega) | (simp; done)))) | ((first | apply gives_go (secretFault_sem _ _) | apply gives_go (Words_sem _ _) | apply gives_go (isDigest_sem _ _) | apply gives_go (Number_sem _ _) | apply gives_go (receiptFault_sem _ _) | apply gives_go (receipt_sem _ _) | apply gives_go (seal_sem _ _ _ _)); (focus (first | exact DLes.refl _ | (repeat (first | exact DLes.nil | ((apply DLes.cons); (focus (first | exact DLe.refl _ | exact DLe.own _ _ | exact DLe.nil _ _ | exact DLe.any _))))))); (focus exact rfl); (all_goals (first | exact rfl | assumption | omega | (simp; omega) | (simp; done)))))); (all_goals exact rfl)) | exact IntWalk.i64_in _ (by omega) | exact IntWalk.u8_in _ (by omega) | exact IntWalk.u64_in _ (by omega) | exact IntWalk.i32_in _ (by omega) | exact rfl | exact ⟨by omega, rfl⟩ | exact ⟨rfl, rfl⟩ | assumption | exact ⟨by omega, by omega⟩ | exact ⟨by omega, by simp; omega⟩ | omega | exact ⟨rfl, rfl, by simp only [List.length_map, List.length_append, List.length_cons, List.length_nil]; omega⟩ | exact ⟨rfl, rfl, by simp; omega⟩ | exact ⟨rfl, rfl, by omega⟩ | exact ⟨rfl, by simp; omega⟩ | exact id | (intro h; simp [h]; done) | ((repeat (first | exact trivial | exact rfl | apply And.intro)); done) | (simp; omega) | (refine ⟨?_, ?_, ?_⟩ <;> first | omega | (simp; done) | (simp; omega)) | exact hc0 | exact ⟨hc0, hc0⟩ | exact ⟨hc0, hc0, hc0⟩ | (simp only [Bool.and_eq_true] at hc0; simp [hc0]; done) | (simp_all; done))))
                | ((first | with_reducible apply DrawR.go0 | with_reducible apply KerB.mk); (focus kernel_rfl))
                | (first | with_reducible apply ends_ret | with_reducible apply ends_norm | with_reducible apply Halt'.mk)
                | ((with_reducible apply CondD.mk) <;> intro hb <;> (try simp only [SPLT] at hb) <;> (try first | contradiction | exact absurd hb (by assumption) | exact absurd (by assumption) hb | (exfalso; omega) | (exfalso; simp at hb; done))))
            all_goals (try exact (false : Bool))
            repeat' ((conv => whnf); first | exact trivial | with_reducible apply And.intro | with_reducible apply endsO_ret | with_reducible apply endsO_norm | exact DLes.nil | with_reducible exact DLe.refl _ | exact DLe.any _ | with_reducible apply DLes.cons | with_reducible exact rle_refl | exact rle_bool rfl | exact rle_int rfl | exact rle_nil rfl | exact rle_sl0 rfl)
            all_goals (conv => whnf)
          · refine sem_intro (M := fun t => mem t [4, 13, 2000013]) hT hM Tryd.func6 inferInstance rfl rfl rfl rfl rfl rfl ?_
            repeat' (
              (conv => whnf)
              first
                | ((try ((first | with_reducible apply NumE.go | with_reducible apply IdxE.go | with_reducible apply TextE.go | with_reducible apply LookE.go | with_reducible apply CallE.go); (conv => whnf))); (with_reducible apply SideD.mk); (focus ((first | (intro hc; have hc0 := hc; (try simp only [SPLT] at hc); (try refine And.intro (by first | exact hc0 | exact ⟨hc0, hc0⟩ | exact ⟨hc0, hc0, hc0⟩) ?_)) | skip); first | exact idx_nat (by assumption) | exact idx_some (by omega) (by assumption) | exact idx_eq (by assumption) (by omega) | ((try apply givesl); (focus (first | ((apply gives_go (hF)); (focus (first | exact DLes.refl _ | (repeat (first | exact DLes.nil | ((apply DLes.cons); (focus (first | exact DLe.refl _ | exact DLe.own _ _ | exact DLe.nil _ _ | exact DLe.any _))))))); (focus exact rfl); (all_goals (first | exact rfl | assumption | omega | (simp; omega) | (simp; done)))) | ((apply gives_go (hW)); (focus (first | exact DLes.refl _ | (repeat (first | exact DLes.nil | ((apply DLes.cons); (focus (first | exact DLe.refl _ | exact DLe.own _ _ | exact DLe.nil _ _ | exact DLe.any _))))))); (focus exact rfl); (all_goals (first | exact rfl | assumption | omega | (simp; omega) | (simp; done)))) | ((apply gives_go (hD2)); (focus (first | exact DLes.refl _ | (repeat (first | exact DLes.nil | ((apply DLes.cons); (focus (first | exact DLe.refl _ | exact DLe.own _ _ | exact DLe.nil _ _ | exact DLe.any _))))))); (focus exact rfl); (all_goals (first | exact rfl | assumption | omega | (simp; omega) | (simp; done)))) | ((apply gives_go (hD4)); (focus (first | exact DLes.refl _ | (repeat (first | exact DLes.nil | ((apply DLes.cons); (focus (first | exact DLe.refl _ | exact DLe.own _ _ | exact DLe.nil _ _ | exact DLe.any _))))))); (focus exact rfl); (all_goals (first | exact rfl | assumption | omega | (simp; omega) | (simp; done)))) | ((first | apply gives_go (secretFault_sem _ _) | apply gives_go (Words_sem _ _) | apply gives_go (isDigest_sem _ _) | apply gives_go (Number_sem _ _) | apply gives_go (receiptFault_sem _ _) | apply gives_go (receipt_sem _ _) | apply gives_go (seal_sem _ _ _ _)); (focus (first | exact DLes.refl _ | (repeat (first | exact DLes.nil | ((apply DLes.cons); (focus (first | exact DLe.refl _ | exact DLe.own _ _ | exact DLe.nil _ _ | exact DLe.any _))))))); (focus exact rfl); (all_goals (first | exact rfl | assumption | omega | (simp; omega) | (simp; done)))))); (all_goals exact rfl)) | exact IntWalk.i64_in _ (by omega) | exact IntWalk.u8_in _ (by omega) | exact IntWalk.u64_in _ (by omega) | exact IntWalk.i32_in _ (by omega) | exact rfl | exact ⟨by omega, rfl⟩ | exact ⟨rfl, rfl⟩ | assumption | exact ⟨by omega, by omega⟩ | exact ⟨by omega, by simp; omega⟩ | omega | exact ⟨rfl, rfl, by simp only [List.length_map, List.length_append, List.length_cons, List.length_nil]; omega⟩ | exact ⟨rfl, rfl, by simp; omega⟩ | exact ⟨rfl, rfl, by omega⟩ | exact ⟨rfl, by simp; omega⟩ | exact id | (intro h; simp [h]; done) | ((repeat (first | exact trivial | exact rfl | apply And.intro)); done) | (simp; omega) | (refine ⟨?_, ?_, ?_⟩ <;> first | omega | (simp; done) | (simp; omega)) | exact hc0 | exact ⟨hc0, hc0⟩ | exact ⟨hc0, hc0, hc0⟩ | (simp only [Bool.and_eq_true] at hc0; simp [hc0]; done) | (simp_all; done))))
                | ((first | with_reducible apply DrawR.go0 | with_reducible apply KerB.mk); (focus kernel_rfl))
                | (first | with_reducible apply ends_ret | with_reducible apply ends_norm | with_reducible apply Halt'.mk)
                | ((with_reducible apply CondD.mk) <;> intro hb <;> (try simp only [SPLT] at hb) <;> (try first | contradiction | exact absurd hb (by assumption) | exact absurd (by assumption) hb | (exfalso; omega) | (exfalso; simp at hb; done) | (exfalso; simp at hb; simp [hb] at hA; done))))
            all_goals (try exact (false : Bool))
            repeat' ((conv => whnf); first | exact trivial | with_reducible apply And.intro | with_reducible apply endsO_ret | with_reducible apply endsO_norm | exact DLes.nil | with_reducible exact DLe.refl _ | exact DLe.any _ | with_reducible apply DLes.cons | with_reducible exact rle_refl | exact rle_bool rfl | exact rle_int rfl | exact rle_nil rfl | exact rle_sl0 rfl)
            all_goals (conv => whnf)
    · have e : readN s t = (zP, 10) := readN_short h0 h5
      rw [e]
      generalize words t = W at hW h5
      have h5' : ¬ (W.length : Int) = 5 := by omega
      cases hg : noGap W
      · rw [hg, if_neg (by decide)] at hW
        refine sem_intro (M := fun t => mem t [4, 13, 2000013]) hT hM Tryd.func6 inferInstance rfl rfl rfl rfl rfl rfl ?_
        repeat' (
          (conv => whnf)
          first
            | ((try ((first | with_reducible apply NumE.go | with_reducible apply IdxE.go | with_reducible apply TextE.go | with_reducible apply LookE.go | with_reducible apply CallE.go); (conv => whnf))); (with_reducible apply SideD.mk); (focus ((first | (intro hc; have hc0 := hc; (try simp only [SPLT] at hc); (try refine And.intro (by first | exact hc0 | exact ⟨hc0, hc0⟩ | exact ⟨hc0, hc0, hc0⟩) ?_)) | skip); first | exact idx_nat (by assumption) | exact idx_some (by omega) (by assumption) | exact idx_eq (by assumption) (by omega) | ((try apply givesl); (focus (first | ((apply gives_go (hF)); (focus (first | exact DLes.refl _ | (repeat (first | exact DLes.nil | ((apply DLes.cons); (focus (first | exact DLe.refl _ | exact DLe.own _ _ | exact DLe.nil _ _ | exact DLe.any _))))))); (focus exact rfl); (all_goals (first | exact rfl | assumption | omega | (simp; omega) | (simp; done)))) | ((apply gives_go (hW)); (focus (first | exact DLes.refl _ | (repeat (first | exact DLes.nil | ((apply DLes.cons); (focus (first | exact DLe.refl _ | exact DLe.own _ _ | exact DLe.nil _ _ | exact DLe.any _))))))); (focus exact rfl); (all_goals (first | exact rfl | assumption | omega | (simp; omega) | (simp; done)))) | ((first | apply gives_go (secretFault_sem _ _) | apply gives_go (Words_sem _ _) | apply gives_go (isDigest_sem _ _) | apply gives_go (Number_sem _ _) | apply gives_go (receiptFault_sem _ _) | apply gives_go (receipt_sem _ _) | apply gives_go (seal_sem _ _ _ _)); (focus (first | exact DLes.refl _ | (repeat (first | exact DLes.nil | ((apply DLes.cons); (focus (first | exact DLe.refl _ | exact DLe.own _ _ | exact DLe.nil _ _ | exact DLe.any _))))))); (focus exact rfl); (all_goals (first | exact rfl | assumption | omega | (simp; omega) | (simp; done)))))); (all_goals exact rfl)) | (exact idx_void hc0 (by simp [h5'])) | exact IntWalk.i64_in _ (by omega) | exact IntWalk.u8_in _ (by omega) | exact IntWalk.u64_in _ (by omega) | exact IntWalk.i32_in _ (by omega) | exact rfl | exact ⟨by omega, rfl⟩ | exact ⟨rfl, rfl⟩ | assumption | exact ⟨by omega, by omega⟩ | exact ⟨by omega, by simp; omega⟩ | omega | exact ⟨rfl, rfl, by simp only [List.length_map, List.length_append, List.length_cons, List.length_nil]; omega⟩ | exact ⟨rfl, rfl, by simp; omega⟩ | exact ⟨rfl, rfl, by omega⟩ | exact ⟨rfl, by simp; omega⟩ | exact id | (intro h; simp [h]; done) | ((repeat (first | exact trivial | exact rfl | apply And.intro)); done) | (simp; omega) | (refine ⟨?_, ?_, ?_⟩ <;> first | omega | (simp; done) | (simp; omega)) | exact hc0 | exact ⟨hc0, hc0⟩ | exact ⟨hc0, hc0, hc0⟩ | (simp only [Bool.and_eq_true] at hc0; simp [hc0]; done) | (simp_all; done))))
            | ((first | with_reducible apply DrawR.go0 | with_reducible apply KerB.mk); (focus kernel_rfl))
            | (first | with_reducible apply ends_ret | with_reducible apply ends_norm | with_reducible apply Halt'.mk)
            | ((with_reducible apply CondD.mk) <;> intro hb <;> (try simp only [SPLT] at hb) <;> (try first | contradiction | exact absurd hb (by assumption) | exact absurd (by assumption) hb | (exfalso; omega) | (exfalso; simp at hb; done))))
        all_goals (try exact (false : Bool))
        repeat' ((conv => whnf); first | exact trivial | with_reducible apply And.intro | with_reducible apply endsO_ret | with_reducible apply endsO_norm | exact DLes.nil | with_reducible exact DLe.refl _ | exact DLe.any _ | with_reducible apply DLes.cons | with_reducible exact rle_refl | exact rle_bool rfl | exact rle_int rfl | exact rle_nil rfl | exact rle_sl0 rfl)
        all_goals (conv => whnf)
      · rw [hg, if_pos rfl] at hW
        refine sem_intro (M := fun t => mem t [4, 13, 2000013]) hT hM Tryd.func6 inferInstance rfl rfl rfl rfl rfl rfl ?_
        repeat' (
          (conv => whnf)
          first
            | ((try ((first | with_reducible apply NumE.go | with_reducible apply IdxE.go | with_reducible apply TextE.go | with_reducible apply LookE.go | with_reducible apply CallE.go); (conv => whnf))); (with_reducible apply SideD.mk); (focus ((first | (intro hc; have hc0 := hc; (try simp only [SPLT] at hc); (try refine And.intro (by first | exact hc0 | exact ⟨hc0, hc0⟩ | exact ⟨hc0, hc0, hc0⟩) ?_)) | skip); first | exact idx_nat (by assumption) | exact idx_some (by omega) (by assumption) | exact idx_eq (by assumption) (by omega) | ((try apply givesl); (focus (first | ((apply gives_go (hF)); (focus (first | exact DLes.refl _ | (repeat (first | exact DLes.nil | ((apply DLes.cons); (focus (first | exact DLe.refl _ | exact DLe.own _ _ | exact DLe.nil _ _ | exact DLe.any _))))))); (focus exact rfl); (all_goals (first | exact rfl | assumption | omega | (simp; omega) | (simp; done)))) | ((apply gives_go (hW)); (focus (first | exact DLes.refl _ | (repeat (first | exact DLes.nil | ((apply DLes.cons); (focus (first | exact DLe.refl _ | exact DLe.own _ _ | exact DLe.nil _ _ | exact DLe.any _))))))); (focus exact rfl); (all_goals (first | exact rfl | assumption | omega | (simp; omega) | (simp; done)))) | ((first | apply gives_go (secretFault_sem _ _) | apply gives_go (Words_sem _ _) | apply gives_go (isDigest_sem _ _) | apply gives_go (Number_sem _ _) | apply gives_go (receiptFault_sem _ _) | apply gives_go (receipt_sem _ _) | apply gives_go (seal_sem _ _ _ _)); (focus (first | exact DLes.refl _ | (repeat (first | exact DLes.nil | ((apply DLes.cons); (focus (first | exact DLe.refl _ | exact DLe.own _ _ | exact DLe.nil _ _ | exact DLe.any _))))))); (focus exact rfl); (all_goals (first | exact rfl | assumption | omega | (simp; omega) | (simp; done)))))); (all_goals exact rfl)) | (exact idx_void hc0 (by simp [h5'])) | exact IntWalk.i64_in _ (by omega) | exact IntWalk.u8_in _ (by omega) | exact IntWalk.u64_in _ (by omega) | exact IntWalk.i32_in _ (by omega) | exact rfl | exact ⟨by omega, rfl⟩ | exact ⟨rfl, rfl⟩ | assumption | exact ⟨by omega, by omega⟩ | exact ⟨by omega, by simp; omega⟩ | omega | exact ⟨rfl, rfl, by simp only [List.length_map, List.length_append, List.length_cons, List.length_nil]; omega⟩ | exact ⟨rfl, rfl, by simp; omega⟩ | exact ⟨rfl, rfl, by omega⟩ | exact ⟨rfl, by simp; omega⟩ | exact id | (intro h; simp [h]; done) | ((repeat (first | exact trivial | exact rfl | apply And.intro)); done) | (simp; omega) | (refine ⟨?_, ?_, ?_⟩ <;> first | omega | (simp; done) | (simp; omega)) | exact hc0 | exact ⟨hc0, hc0⟩ | exact ⟨hc0, hc0, hc0⟩ | (simp only [Bool.and_eq_true] at hc0; simp [hc0]; done) | (simp_all; done))))
            | ((first | with_reducible apply DrawR.go0 | with_reducible apply KerB.mk); (focus kernel_rfl))
            | (first | with_reducible apply ends_ret | with_reducible apply ends_norm | with_reducible apply Halt'.mk)
            | ((with_reducible apply CondD.mk) <;> intro hb <;> (try simp only [SPLT] at hb) <;> (try first | contradiction | exact absurd hb (by assumption) | exact absurd (by assumption) hb | (exfalso; omega) | (exfalso; simp at hb; done))))
        all_goals (try exact (false : Bool))
        repeat' ((conv => whnf); first | exact trivial | with_reducible apply And.intro | with_reducible apply endsO_ret | with_reducible apply endsO_norm | exact DLes.nil | with_reducible exact DLe.refl _ | exact DLe.any _ | with_reducible apply DLes.cons | with_reducible exact rle_refl | exact rle_bool rfl | exact rle_int rfl | exact rle_nil rfl | exact rle_sl0 rfl)
        all_goals (conv => whnf)
  · have e : readN s t = (zP, secretN s) := by
      unfold readN
      rw [if_pos h0]
    rw [e]
    generalize secretN s = n at h0 hF ⊢
    refine sem_intro (M := fun t => mem t [4, 13, 2000013]) hT hM Tryd.func6 inferInstance rfl rfl rfl rfl rfl rfl ?_
    repeat' (
      (conv => whnf)
      first
        | ((try ((first | with_reducible apply NumE.go | with_reducible apply IdxE.go | with_reducible apply TextE.go | with_reducible apply LookE.go | with_reducible apply CallE.go); (conv => whnf))); (with_reducible apply SideD.mk); (focus ((first | (intro hc; have hc0 := hc; (try simp only [SPLT] at hc); (try refine And.intro (by first | exact hc0 | exact ⟨hc0, hc0⟩ | exact ⟨hc0, hc0, hc0⟩) ?_)) | skip); first | exact idx_nat (by assumption) | exact idx_some (by omega) (by assumption) | exact idx_eq (by assumption) (by omega) | ((try apply givesl); (focus (first | ((apply gives_go (hF)); (focus (first | exact DLes.refl _ | (repeat (first | exact DLes.nil | ((apply DLes.cons); (focus (first | exact DLe.refl _ | exact DLe.own _ _ | exact DLe.nil _ _ | exact DLe.any _))))))); (focus exact rfl); (all_goals (first | exact rfl | assumption | omega | (simp; omega) | (simp; done)))) | ((first | apply gives_go (secretFault_sem _ _) | apply gives_go (Words_sem _ _) | apply gives_go (isDigest_sem _ _) | apply gives_go (Number_sem _ _) | apply gives_go (receiptFault_sem _ _) | apply gives_go (receipt_sem _ _) | apply gives_go (seal_sem _ _ _ _)); (focus (first | exact DLes.refl _ | (repeat (first | exact DLes.nil | ((apply DLes.cons); (focus (first | exact DLe.refl _ | exact DLe.own _ _ | exact DLe.nil _ _ | exact DLe.any _))))))); (focus exact rfl); (all_goals (first | exact rfl | assumption | omega | (simp; omega) | (simp; done)))))); (all_goals exact rfl)) | exact IntWalk.i64_in _ (by omega) | exact IntWalk.u8_in _ (by omega) | exact IntWalk.u64_in _ (by omega) | exact IntWalk.i32_in _ (by omega) | exact rfl | exact ⟨by omega, rfl⟩ | exact ⟨rfl, rfl⟩ | assumption | exact ⟨by omega, by omega⟩ | exact ⟨by omega, by simp; omega⟩ | omega | exact ⟨rfl, rfl, by simp only [List.length_map, List.length_append, List.length_cons, List.length_nil]; omega⟩ | exact ⟨rfl, rfl, by simp; omega⟩ | exact ⟨rfl, rfl, by omega⟩ | exact ⟨rfl, by simp; omega⟩ | exact id | (intro h; simp [h]; done) | ((repeat (first | exact trivial | exact rfl | apply And.intro)); done) | (simp; omega) | (refine ⟨?_, ?_, ?_⟩ <;> first | omega | (simp; done) | (simp; omega)) | exact hc0 | exact ⟨hc0, hc0⟩ | exact ⟨hc0, hc0, hc0⟩ | (simp only [Bool.and_eq_true] at hc0; simp [hc0]; done) | (simp_all; done))))
        | ((first | with_reducible apply DrawR.go0 | with_reducible apply KerB.mk); (focus kernel_rfl))
        | (first | with_reducible apply ends_ret | with_reducible apply ends_norm | with_reducible apply Halt'.mk)
        | ((with_reducible apply CondD.mk) <;> intro hb <;> (try simp only [SPLT] at hb) <;> (try first | contradiction | exact absurd hb (by assumption) | exact absurd (by assumption) hb | (exfalso; omega) | (exfalso; simp at hb; done))))
    all_goals (try exact (false : Bool))
    repeat' ((conv => whnf); first | exact trivial | with_reducible apply And.intro | with_reducible apply endsO_ret | with_reducible apply endsO_norm | exact DLes.nil | with_reducible exact DLe.refl _ | exact DLe.any _ | with_reducible apply DLes.cons | with_reducible exact rle_refl | exact rle_bool rfl | exact rle_int rfl | exact rle_nil rfl | exact rle_sl0 rfl)
    all_goals (conv => whnf)
end Go.Proofs.YtkjgmjocikmplaaDoor
namespace Go.Proofs.YtkjgmjocikmplaaDoor
set_option linter.unusedSimpArgs false
set_option linter.unusedVariables false
open Go.RowKit
set_option maxRecDepth 100000
set_option maxHeartbeats 1000000

theorem textN_ok {s : List UInt8} {r : Prf} (h : (textN s r).2 = 0) : secretN s = 0 ∧ proofN r = 0 ∧ (textN s r).1 = receiptN r ++ [32] ++ sealN s (receiptN r) := by
  unfold textN at h ⊢
  split at h
  · rename_i h0
    exact absurd h h0
  · rename_i h0
    split at h
    · rename_i h1
      exact absurd h h1
    · rename_i h1
      rw [if_neg h0, if_neg h1]
      exact ⟨by simpa using h0, by simpa using h1, rfl⟩
theorem textN_no {s : List UInt8} {r : Prf} (h : (textN s r).2 ≠ 0) : (textN s r).1 = [] := by
  unfold textN at h ⊢
  split
  · rfl
  · rename_i h0
    rw [if_neg h0] at h
    split
    · rfl
    · rename_i h1
      rw [if_neg h1] at h
      exact absurd rfl h
theorem textN_len {s : List UInt8} {r : Prf} (h : (textN s r).2 = 0) : (textN s r).1.length ≤ 200 := by
  obtain ⟨_, h1, h2⟩ := textN_ok h
  have := receiptN_len h1
  have := sealN_len s (receiptN r)
  rw [h2]
  simp only [List.length_append, List.length_cons, List.length_nil]
  omega
theorem dec_all : ∀ (k u : Nat), u < 10 ^ (k + 1) → (Lib.decDigits u).all digByte = true ∧ valN (Lib.decDigits u) = u ∧ 1 ≤ (Lib.decDigits u).length ∧ (1 ≤ u → ((Lib.decDigits u).getD 0 0).toNat ≠ 48)
  | 0, u, h => by
    have h9 : u < 10 := by simpa using h
    rw [Lib.decDigits, dif_pos h9]
    have e : (UInt8.ofNat (48 + u)).toNat = 48 + u := by rw [UInt8.toNat_ofNat']; omega
    refine ⟨?_, ?_, by simp, fun h1 => ?_⟩
    · simp only [List.all_cons, List.all_nil, Bool.and_true, digByte, e, Bool.and_eq_true, decide_eq_true_eq]
      omega
    · simp only [valN, List.foldl_cons, List.foldl_nil, e]
      omega
    · simp only [List.getD_cons_zero, e]
      omega
  | k + 1, u, h => by
    by_cases h9 : u < 10
    · exact dec_all 0 u (by simpa using h9)
    · obtain ⟨i1, i2, i3, i4⟩ := dec_all k (u / 10) (by rw [Nat.pow_succ] at h; omega)
      rw [Lib.decDigits, dif_neg h9]
      have e : (UInt8.ofNat (48 + u % 10)).toNat = 48 + u % 10 := by rw [UInt8.toNat_ofNat']; omega
      refine ⟨?_, ?_, by simp, fun _ => ?_⟩
      · rw [List.all_append, i1]
        simp only [List.all_cons, List.all_nil, Bool.and_true, Bool.true_and, digByte, e, Bool.and_eq_true, decide_eq_true_eq]
        omega
      · rw [valN_snoc, i2, e]
        omega
      · have h0 := i4 (by omega)
        cases hd : Lib.decDigits (u / 10) with
        | nil => rw [hd] at i3; simp at i3
        | cons a l =>
          rw [hd] at h0
          simpa using h0
theorem lt16 {u : Nat} (h : (u : Int) ≤ 1000000000000000) : u < 10 ^ (15 + 1) := by
  have e : (10 : Nat) ^ (15 + 1) = 10000000000000000 := by decide
  omega
theorem numN_itoa {n : Int} (h0 : 0 ≤ n) (h1 : n ≤ 1000000000000000) : numN (Lib.itoa n) = (n, true) ∧ (32 : UInt8) ∉ Lib.itoa n := by
  obtain ⟨u, rfl⟩ : ∃ u : Nat, n = u := ⟨n.toNat, by omega⟩
  have e : Lib.itoa (u : Int) = Lib.decDigits u := by
    unfold Lib.itoa
    rw [if_neg (by omega), Int.toNat_natCast]
  rw [e]
  obtain ⟨i1, i2, i3, i4⟩ := dec_all 15 u (lt16 h1)
  have hl := dec_len 15 u (lt16 h1)
  refine ⟨?_, fun hm => ?_⟩
  · have hz : headZero (Lib.decDigits u) = false := by
      unfold headZero
      simp only [Bool.and_eq_false_iff, decide_eq_false_iff_not]
      by_cases h1 : 1 ≤ u
      · exact .inr (i4 h1)
      · obtain rfl : u = 0 := by omega
        refine .inl ?_
        rw [Lib.decDigits, dif_pos (by omega)]
        decide
    have hc : canonB (Lib.decDigits u) = true := by
      unfold canonB
      rw [hz, i1, decide_eq_true i3, decide_eq_true (show (Lib.decDigits u).length ≤ 16 by omega)]
      rfl
    unfold numN
    rw [if_pos hc, i2]
  · have := List.all_eq_true.1 i1 _ hm
    revert this
    decide
theorem hexN_all : ∀ (k n : Nat), (hexN k n).all hexByte = true
  | 0, _ => rfl
  | k + 1, n => by
    have hd : ∀ m : Fin 16, hexByte (hexD m.val) = true := by decide +kernel
    have := hd ⟨n % 16, by omega⟩
    rw [hexN, List.all_append, hexN_all k]
    simpa using this
theorem seal_dig (s t : List UInt8) : isDig (sealN s t) = true := by
  unfold isDig
  rw [decide_eq_true (sealN_len s t)]
  exact hexN_all 16 _
theorem dig_free {d : List UInt8} (h : isDig d = true) : (32 : UInt8) ∉ d := by
  unfold isDig at h
  rw [Bool.and_eq_true] at h
  intro hm
  have := List.all_eq_true.1 h.2 _ hm
  revert this
  decide
theorem proofN_dig {r : Prf} (h : proofN r = 0) : isDig r.digest = true := by
  unfold proofN at h
  split at h
  · cases h
  · split at h
    · cases h
    · rename_i h2
      simpa using h2
/-- What was written is read again, if the seal is the secret's own. -/
theorem read_text {s o : List UInt8} {r : Prf} (h : (textN s r).2 = 0) (ho : secretN o = 0) : readN o (textN s r).1 = if sealN o (receiptN r) = sealN s (receiptN r) then (r, 0) else (zP, 15) := by
  obtain ⟨_, h1, h2⟩ := textN_ok h
  have hp := proofN_ok h1
  have hd := proofN_dig h1
  obtain ⟨n1, f1⟩ := numN_itoa hp.1 (by omega)
  obtain ⟨n3, f3⟩ := numN_itoa hp.2.2.1 hp.2.2.2.1
  have hsd := seal_dig s (receiptN r)
  have hj : (textN s r).1 = joinW [litR, Lib.itoa r.number, r.digest, Lib.itoa r.time, sealN s (receiptN r)] := by
    rw [h2]
    generalize sealN s (receiptN r) = u
    unfold receiptN
    simp [joinW, litR, List.append_assoc]
  have hw : words (textN s r).1 = [litR, Lib.itoa r.number, r.digest, Lib.itoa r.time, sealN s (receiptN r)] := by
    rw [hj]
    refine words_join (by simp) fun w hm => ?_
    simp only [List.mem_cons, List.not_mem_nil, or_false] at hm
    rcases hm with rfl | rfl | rfl | rfl | rfl
    · decide
    · exact f1
    · exact dig_free hd
    · exact f3
    · exact dig_free hsd
  have e : readN o (textN s r).1 = read5 o (textN s r).1 litR (Lib.itoa r.number) r.digest (Lib.itoa r.time) (sealN s (receiptN r)) := by
    unfold readN
    rw [if_neg (by simpa using ho), hw]
    rfl
  rw [e, read5_yes hw ho hd hsd (by rw [n1]) (by rw [n3]), n1, n3, if_neg (by simp only; omega)]
theorem law15_sem (s o : List UInt8) (r : Prf) (hs : s.length ≤ 9223372036854775807) (ho : o.length ≤ 9223372036854775807) (hr : r.Ok) : Sem Tryd.prog 3 [.sl 0 1 (s.map bR), .sl 0 1 (o.map bR), r.d] (.bool true) := by
  have h1 := ReceiptText_sem s r hs hr
  have h2 := ReceiptText_sem o r ho hr
  by_cases hf : (textN s r).2 = 0
  · have hl := textN_len hf
    have h3 := ReadReceipt_sem s (textN s r).1 hs (by omega)
    have h4 := ReadReceipt_sem o (textN s r).1 ho (by omega)
    obtain ⟨hs0, hp0, e⟩ := textN_ok hf
    have e3 := read_text hf hs0
    rw [if_pos rfl] at e3
    rw [e3] at h3
    by_cases hg : (textN o r).2 = 0
    · obtain ⟨ho0, _, eo⟩ := textN_ok hg
      have e4 := read_text hf ho0
      rw [e4] at h4
      by_cases hq : sealN o (receiptN r) = sealN s (receiptN r)
      · have e5 : (textN o r).1 = (textN s r).1 := by rw [e, eo, hq]
        rw [if_pos hq] at h4
        rw [hg, e5] at h2
        rw [hf] at h1
        clear e eo e3 e4 e5 hq hs0 ho0 hp0 hl hf hg
        generalize (textN s r).1 = x at h1 h2 h3 h4
        refine sem_intro (M := fun t => mem t [9, 2000009]) hT hM Tryd.func3 inferInstance rfl rfl rfl rfl rfl rfl ?_
        repeat' (
          (conv => whnf)
          first
            | ((try ((first | with_reducible apply NumE.go | with_reducible apply IdxE.go | with_reducible apply TextE.go | with_reducible apply LookE.go | with_reducible apply CallE.go); (conv => whnf))); (with_reducible apply SideD.mk); (focus ((first | (intro hc; have hc0 := hc; (try simp only [SPLT] at hc); (try refine And.intro (by first | exact hc0 | exact ⟨hc0, hc0⟩ | exact ⟨hc0, hc0, hc0⟩) ?_)) | skip); first | exact idx_nat (by assumption) | exact idx_some (by omega) (by assumption) | exact idx_eq (by assumption) (by omega) | ((try apply givesl); (focus (first | ((apply gives_go (h1)); (focus (first | exact DLes.refl _ | (repeat (first | exact DLes.nil | ((apply DLes.cons); (focus (first | exact DLe.refl _ | exact DLe.own _ _ | exact DLe.nil _ _ | exact DLe.any _))))))); (focus exact rfl); (all_goals (first | exact rfl | assumption | omega | (simp; omega) | (simp; done)))) | ((apply gives_go (h2)); (focus (first | exact DLes.refl _ | (repeat (first | exact DLes.nil | ((apply DLes.cons); (focus (first | exact DLe.refl _ | exact DLe.own _ _ | exact DLe.nil _ _ | exact DLe.any _))))))); (focus exact rfl); (all_goals (first | exact rfl | assumption | omega | (simp; omega) | (simp; done)))) | ((apply gives_go (h3)); (focus (first | exact DLes.refl _ | (repeat (first | exact DLes.nil | ((apply DLes.cons); (focus (first | exact DLe.refl _ | exact DLe.own _ _ | exact DLe.nil _ _ | exact DLe.any _))))))); (focus exact rfl); (all_goals (first | exact rfl | assumption | omega | (simp; omega) | (simp; done)))) | ((apply gives_go (h4)); (focus (first | exact DLes.refl _ | (repeat (first | exact DLes.nil | ((apply DLes.cons); (focus (first | exact DLe.refl _ | exact DLe.own _ _ | exact DLe.nil _ _ | exact DLe.any _))))))); (focus exact rfl); (all_goals (first | exact rfl | assumption | omega | (simp; omega) | (simp; done)))) | ((first | apply gives_go (ReceiptText_sem _ _ _ _) | apply gives_go (awake_sem ) | apply gives_go (ReadReceipt_sem _ _ _ _)); (focus (first | exact DLes.refl _ | (repeat (first | exact DLes.nil | ((apply DLes.cons); (focus (first | exact DLe.refl _ | exact DLe.own _ _ | exact DLe.nil _ _ | exact DLe.any _))))))); (focus exact rfl); (all_goals (first | exact rfl | assumption | omega | (simp; omega) | (simp; done)))))); (all_goals exact rfl)) | exact IntWalk.i64_in _ (by omega) | exact IntWalk.u8_in _ (by omega) | exact IntWalk.u64_in _ (by omega) | exact IntWalk.i32_in _ (by omega) | exact rfl | exact ⟨by omega, rfl⟩ | exact ⟨rfl, rfl⟩ | assumption | exact ⟨by omega, by omega⟩ | exact ⟨by omega, by simp; omega⟩ | omega | exact ⟨rfl, rfl, by simp only [List.length_map, List.length_append, List.length_cons, List.length_nil]; omega⟩ | exact ⟨rfl, rfl, by simp; omega⟩ | exact ⟨rfl, rfl, by omega⟩ | exact ⟨rfl, by simp; omega⟩ | exact id | (intro h; simp [h]; done) | ((repeat (first | exact trivial | exact rfl | apply And.intro)); done) | (simp; omega) | (refine ⟨?_, ?_, ?_⟩ <;> first | omega | (simp; done) | (simp; omega)) | exact hc0 | exact ⟨hc0, hc0⟩ | exact ⟨hc0, hc0, hc0⟩ | (simp only [Bool.and_eq_true] at hc0; simp [hc0]; done) | (simp_all; done))))
            | ((first | with_reducible apply DrawR.go0 | with_reducible apply KerB.mk); (focus kernel_rfl))
            | (first | with_reducible apply ends_ret | with_reducible apply ends_norm | with_reducible apply Halt'.mk)
            | ((with_reducible apply CondD.mk) <;> intro hb <;> (try simp only [SPLT] at hb) <;> (try first | contradiction | exact absurd hb (by assumption) | exact absurd (by assumption) hb | (exfalso; omega) | (exfalso; simp at hb; done))))
        all_goals (try exact (false : Bool))
        repeat' ((conv => whnf); first | exact trivial | with_reducible apply And.intro | with_reducible apply endsO_ret | with_reducible apply endsO_norm | exact DLes.nil | with_reducible exact DLe.refl _ | exact DLe.any _ | with_reducible apply DLes.cons | with_reducible exact rle_refl | exact rle_bool rfl | exact rle_int rfl | exact rle_nil rfl | exact rle_sl0 rfl)
        all_goals (conv => whnf)
        all_goals exact rle_bool (by simp)
      · have e5 : (textN o r).1 ≠ (textN s r).1 := by
          rw [e, eo]
          intro h
          exact hq (List.append_cancel_left h)
        rw [if_neg hq] at h4
        rw [hg] at h2
        rw [hf] at h1
        clear e eo e3 e4 hq hs0 ho0 hp0 hl hf hg
        generalize (textN s r).1 = x at h1 h3 h4 e5
        generalize (textN o r).1 = y at h2 e5
        refine sem_intro (M := fun t => mem t [9, 2000009]) hT hM Tryd.func3 inferInstance rfl rfl rfl rfl rfl rfl ?_
        repeat' (
          (conv => whnf)
          first
            | ((try ((first | with_reducible apply NumE.go | with_reducible apply IdxE.go | with_reducible apply TextE.go | with_reducible apply LookE.go | with_reducible apply CallE.go); (conv => whnf))); (with_reducible apply SideD.mk); (focus ((first | (intro hc; have hc0 := hc; (try simp only [SPLT] at hc); (try refine And.intro (by first | exact hc0 | exact ⟨hc0, hc0⟩ | exact ⟨hc0, hc0, hc0⟩) ?_)) | skip); first | exact idx_nat (by assumption) | exact idx_some (by omega) (by assumption) | exact idx_eq (by assumption) (by omega) | ((try apply givesl); (focus (first | ((apply gives_go (h1)); (focus (first | exact DLes.refl _ | (repeat (first | exact DLes.nil | ((apply DLes.cons); (focus (first | exact DLe.refl _ | exact DLe.own _ _ | exact DLe.nil _ _ | exact DLe.any _))))))); (focus exact rfl); (all_goals (first | exact rfl | assumption | omega | (simp; omega) | (simp; done)))) | ((apply gives_go (h2)); (focus (first | exact DLes.refl _ | (repeat (first | exact DLes.nil | ((apply DLes.cons); (focus (first | exact DLe.refl _ | exact DLe.own _ _ | exact DLe.nil _ _ | exact DLe.any _))))))); (focus exact rfl); (all_goals (first | exact rfl | assumption | omega | (simp; omega) | (simp; done)))) | ((apply gives_go (h3)); (focus (first | exact DLes.refl _ | (repeat (first | exact DLes.nil | ((apply DLes.cons); (focus (first | exact DLe.refl _ | exact DLe.own _ _ | exact DLe.nil _ _ | exact DLe.any _))))))); (focus exact rfl); (all_goals (first | exact rfl | assumption | omega | (simp; omega) | (simp; done)))) | ((apply gives_go (h4)); (focus (first | exact DLes.refl _ | (repeat (first | exact DLes.nil | ((apply DLes.cons); (focus (first | exact DLe.refl _ | exact DLe.own _ _ | exact DLe.nil _ _ | exact DLe.any _))))))); (focus exact rfl); (all_goals (first | exact rfl | assumption | omega | (simp; omega) | (simp; done)))) | ((first | apply gives_go (ReceiptText_sem _ _ _ _) | apply gives_go (awake_sem ) | apply gives_go (ReadReceipt_sem _ _ _ _)); (focus (first | exact DLes.refl _ | (repeat (first | exact DLes.nil | ((apply DLes.cons); (focus (first | exact DLe.refl _ | exact DLe.own _ _ | exact DLe.nil _ _ | exact DLe.any _))))))); (focus exact rfl); (all_goals (first | exact rfl | assumption | omega | (simp; omega) | (simp; done)))))); (all_goals exact rfl)) | exact IntWalk.i64_in _ (by omega) | exact IntWalk.u8_in _ (by omega) | exact IntWalk.u64_in _ (by omega) | exact IntWalk.i32_in _ (by omega) | exact rfl | exact ⟨by omega, rfl⟩ | exact ⟨rfl, rfl⟩ | assumption | exact ⟨by omega, by omega⟩ | exact ⟨by omega, by simp; omega⟩ | omega | exact ⟨rfl, rfl, by simp only [List.length_map, List.length_append, List.length_cons, List.length_nil]; omega⟩ | exact ⟨rfl, rfl, by simp; omega⟩ | exact ⟨rfl, rfl, by omega⟩ | exact ⟨rfl, by simp; omega⟩ | exact id | (intro h; simp [h]; done) | ((repeat (first | exact trivial | exact rfl | apply And.intro)); done) | (simp; omega) | (refine ⟨?_, ?_, ?_⟩ <;> first | omega | (simp; done) | (simp; omega)) | exact hc0 | exact ⟨hc0, hc0⟩ | exact ⟨hc0, hc0, hc0⟩ | (simp only [Bool.and_eq_true] at hc0; simp [hc0]; done) | (simp_all; done))))
            | ((first | with_reducible apply DrawR.go0 | with_reducible apply KerB.mk); (focus kernel_rfl))
            | (first | with_reducible apply ends_ret | with_reducible apply ends_norm | with_reducible apply Halt'.mk)
            | ((with_reducible apply CondD.mk) <;> intro hb <;> (try simp only [SPLT] at hb) <;> (try first | contradiction | exact absurd hb (by assumption) | exact absurd (by assumption) hb | (exfalso; omega) | (exfalso; simp at hb; done))))
        all_goals (try exact (false : Bool))
        repeat' ((conv => whnf); first | exact trivial | with_reducible apply And.intro | with_reducible apply endsO_ret | with_reducible apply endsO_norm | exact DLes.nil | with_reducible exact DLe.refl _ | exact DLe.any _ | with_reducible apply DLes.cons | with_reducible exact rle_refl | exact rle_bool rfl | exact rle_int rfl | exact rle_nil rfl | exact rle_sl0 rfl)
        all_goals (conv => whnf)
        all_goals exact rle_bool (by simp [Ne.symm e5])
    · rw [hf] at h1
      clear h4 e e3 hs0 hp0 hl hf
      generalize (textN s r).1 = x at h1 h3
      generalize (textN o r).2 = n at h2 hg
      generalize (textN o r).1 = y at h2
      refine sem_intro (M := fun t => mem t [9, 2000009]) hT hM Tryd.func3 inferInstance rfl rfl rfl rfl rfl rfl ?_
      repeat' (
        (conv => whnf)
        first
          | ((try ((first | with_reducible apply NumE.go | with_reducible apply IdxE.go | with_reducible apply TextE.go | with_reducible apply LookE.go | with_reducible apply CallE.go); (conv => whnf))); (with_reducible apply SideD.mk); (focus ((first | (intro hc; have hc0 := hc; (try simp only [SPLT] at hc); (try refine And.intro (by first | exact hc0 | exact ⟨hc0, hc0⟩ | exact ⟨hc0, hc0, hc0⟩) ?_)) | skip); first | exact idx_nat (by assumption) | exact idx_some (by omega) (by assumption) | exact idx_eq (by assumption) (by omega) | ((try apply givesl); (focus (first | ((apply gives_go (h1)); (focus (first | exact DLes.refl _ | (repeat (first | exact DLes.nil | ((apply DLes.cons); (focus (first | exact DLe.refl _ | exact DLe.own _ _ | exact DLe.nil _ _ | exact DLe.any _))))))); (focus exact rfl); (all_goals (first | exact rfl | assumption | omega | (simp; omega) | (simp; done)))) | ((apply gives_go (h2)); (focus (first | exact DLes.refl _ | (repeat (first | exact DLes.nil | ((apply DLes.cons); (focus (first | exact DLe.refl _ | exact DLe.own _ _ | exact DLe.nil _ _ | exact DLe.any _))))))); (focus exact rfl); (all_goals (first | exact rfl | assumption | omega | (simp; omega) | (simp; done)))) | ((apply gives_go (h3)); (focus (first | exact DLes.refl _ | (repeat (first | exact DLes.nil | ((apply DLes.cons); (focus (first | exact DLe.refl _ | exact DLe.own _ _ | exact DLe.nil _ _ | exact DLe.any _))))))); (focus exact rfl); (all_goals (first | exact rfl | assumption | omega | (simp; omega) | (simp; done)))) | ((first | apply gives_go (ReceiptText_sem _ _ _ _) | apply gives_go (awake_sem ) | apply gives_go (ReadReceipt_sem _ _ _ _)); (focus (first | exact DLes.refl _ | (repeat (first | exact DLes.nil | ((apply DLes.cons); (focus (first | exact DLe.refl _ | exact DLe.own _ _ | exact DLe.nil _ _ | exact DLe.any _))))))); (focus exact rfl); (all_goals (first | exact rfl | assumption | omega | (simp; omega) | (simp; done)))))); (all_goals exact rfl)) | exact IntWalk.i64_in _ (by omega) | exact IntWalk.u8_in _ (by omega) | exact IntWalk.u64_in _ (by omega) | exact IntWalk.i32_in _ (by omega) | exact rfl | exact ⟨by omega, rfl⟩ | exact ⟨rfl, rfl⟩ | assumption | exact ⟨by omega, by omega⟩ | exact ⟨by omega, by simp; omega⟩ | omega | exact ⟨rfl, rfl, by simp only [List.length_map, List.length_append, List.length_cons, List.length_nil]; omega⟩ | exact ⟨rfl, rfl, by simp; omega⟩ | exact ⟨rfl, rfl, by omega⟩ | exact ⟨rfl, by simp; omega⟩ | exact id | (intro h; simp [h]; done) | ((repeat (first | exact trivial | exact rfl | apply And.intro)); done) | (simp; omega) | (refine ⟨?_, ?_, ?_⟩ <;> first | omega | (simp; done) | (simp; omega)) | exact hc0 | exact ⟨hc0, hc0⟩ | exact ⟨hc0, hc0, hc0⟩ | (simp only [Bool.and_eq_true] at hc0; simp [hc0]; done) | (simp_all; done))))
          | ((first | with_reducible apply DrawR.go0 | with_reducible apply KerB.mk); (focus kernel_rfl))
          | (first | with_reducible apply ends_ret | with_reducible apply ends_norm | with_reducible apply Halt'.mk)
          | ((with_reducible apply CondD.mk) <;> intro hb <;> (try simp only [SPLT] at hb) <;> (try first | contradiction | exact absurd hb (by assumption) | exact absurd (by assumption) hb | (exfalso; omega) | (exfalso; simp at hb; done))))
      all_goals (try exact (false : Bool))
      repeat' ((conv => whnf); first | exact trivial | with_reducible apply And.intro | with_reducible apply endsO_ret | with_reducible apply endsO_norm | exact DLes.nil | with_reducible exact DLe.refl _ | exact DLe.any _ | with_reducible apply DLes.cons | with_reducible exact rle_refl | exact rle_bool rfl | exact rle_int rfl | exact rle_nil rfl | exact rle_sl0 rfl)
      all_goals (conv => whnf)
  · have e : (textN s r).1 = [] := textN_no hf
    rw [e] at h1
    clear e h2
    generalize (textN s r).2 = n at h1 hf
    refine sem_intro (M := fun t => mem t [9, 2000009]) hT hM Tryd.func3 inferInstance rfl rfl rfl rfl rfl rfl ?_
    repeat' (
      (conv => whnf)
      first
        | ((try ((first | with_reducible apply NumE.go | with_reducible apply IdxE.go | with_reducible apply TextE.go | with_reducible apply LookE.go | with_reducible apply CallE.go); (conv => whnf))); (with_reducible apply SideD.mk); (focus ((first | (intro hc; have hc0 := hc; (try simp only [SPLT] at hc); (try refine And.intro (by first | exact hc0 | exact ⟨hc0, hc0⟩ | exact ⟨hc0, hc0, hc0⟩) ?_)) | skip); first | exact idx_nat (by assumption) | exact idx_some (by omega) (by assumption) | exact idx_eq (by assumption) (by omega) | ((try apply givesl); (focus (first | ((apply gives_go (h1)); (focus (first | exact DLes.refl _ | (repeat (first | exact DLes.nil | ((apply DLes.cons); (focus (first | exact DLe.refl _ | exact DLe.own _ _ | exact DLe.nil _ _ | exact DLe.any _))))))); (focus exact rfl); (all_goals (first | exact rfl | assumption | omega | (simp; omega) | (simp; done)))) | ((first | apply gives_go (ReceiptText_sem _ _ _ _) | apply gives_go (awake_sem ) | apply gives_go (ReadReceipt_sem _ _ _ _)); (focus (first | exact DLes.refl _ | (repeat (first | exact DLes.nil | ((apply DLes.cons); (focus (first | exact DLe.refl _ | exact DLe.own _ _ | exact DLe.nil _ _ | exact DLe.any _))))))); (focus exact rfl); (all_goals (first | exact rfl | assumption | omega | (simp; omega) | (simp; done)))))); (all_goals exact rfl)) | exact IntWalk.i64_in _ (by omega) | exact IntWalk.u8_in _ (by omega) | exact IntWalk.u64_in _ (by omega) | exact IntWalk.i32_in _ (by omega) | exact rfl | exact ⟨by omega, rfl⟩ | exact ⟨rfl, rfl⟩ | assumption | exact ⟨by omega, by omega⟩ | exact ⟨by omega, by simp; omega⟩ | omega | exact ⟨rfl, rfl, by simp only [List.length_map, List.length_append, List.length_cons, List.length_nil]; omega⟩ | exact ⟨rfl, rfl, by simp; omega⟩ | exact ⟨rfl, rfl, by omega⟩ | exact ⟨rfl, by simp; omega⟩ | exact id | (intro h; simp [h]; done) | ((repeat (first | exact trivial | exact rfl | apply And.intro)); done) | (simp; omega) | (refine ⟨?_, ?_, ?_⟩ <;> first | omega | (simp; done) | (simp; omega)) | exact hc0 | exact ⟨hc0, hc0⟩ | exact ⟨hc0, hc0, hc0⟩ | (simp only [Bool.and_eq_true] at hc0; simp [hc0]; done) | (simp_all; done))))
        | ((first | with_reducible apply DrawR.go0 | with_reducible apply KerB.mk); (focus kernel_rfl))
        | (first | with_reducible apply ends_ret | with_reducible apply ends_norm | with_reducible apply Halt'.mk)
        | ((with_reducible apply CondD.mk) <;> intro hb <;> (try simp only [SPLT] at hb) <;> (try first | contradiction | exact absurd hb (by assumption) | exact absurd (by assumption) hb | (exfalso; omega) | (exfalso; simp at hb; done))))
    all_goals (try exact (false : Bool))
    repeat' ((conv => whnf); first | exact trivial | with_reducible apply And.intro | with_reducible apply endsO_ret | with_reducible apply endsO_norm | exact DLes.nil | with_reducible exact DLe.refl _ | exact DLe.any _ | with_reducible apply DLes.cons | with_reducible exact rle_refl | exact rle_bool rfl | exact rle_int rfl | exact rle_nil rfl | exact rle_sl0 rfl)
    all_goals (conv => whnf)
end Go.Proofs.YtkjgmjocikmplaaDoor
