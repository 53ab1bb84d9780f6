/- Agreements: looking up partners, the order, finding. -/
import Derived.Test.YtdopillligfdiaaDoorNS
namespace Go.Proofs.YtdopillligfdiaaDoor
set_option linter.unusedSimpArgs false
set_option linter.unusedVariables false
open Go.RowKit
set_option maxRecDepth 100000
set_option maxHeartbeats 1000000

theorem compare_sem (a b : Str) : Sem Tryd.prog 116 [.str a, .str b] (.int .i64 (Lib.compareBytes a b)) :=
  sem_vals (us := [.string ⟨a.toArray⟩, .string ⟨b.toArray⟩]) (v := .int .i64 (Lib.compareBytes a b)) rfl rfl (fun _ _ => .int _ _) fun w =>
    (Tryd.strings_Compare ⟨a.toArray⟩ ⟨b.toArray⟩ w).mono fun e w' ⟨h1, h2⟩ => ⟨h1, by rw [h2]; exact Ext.refl w⟩
theorem isPartner1_sem (p : Par) (n : Str) : Sem Tryd.prog 115 [.agg p.row, .str n] (.int .i64 (Lib.compareBytes p.name n)) := by
  refine sem_intro (M := fun t => mem t []) hT hM Tryd.func115 inferInstance rfl rfl rfl rfl rfl rfl ?_
  repeat' (
    (conv => whnf)
    first
      | ((with_reducible apply NumE.go); (conv => whnf); (with_reducible apply SideD.mk); (focus ((first | (intro hc; have hc0 := hc; (try simp only [SPLT] at hc); (try refine And.intro (by first | exact hc0 | exact ⟨hc0, hc0⟩ | exact ⟨hc0, hc0, hc0⟩) ?_)) | skip); first | exact shr_one _ | exact IntWalk.i64_in _ (by omega) | exact IntWalk.u8_in _ (by omega) | exact ⟨by omega, IntWalk.i64_quo _ _ ⟨by omega, by omega, by omega⟩⟩ | exact ⟨by omega, IntWalk.rem_in _ _ (by omega)⟩ | exact IntWalk.u64_in _ (by omega) | exact IntWalk.i32_in _ (by omega) | exact rfl | exact ⟨by omega, rfl⟩ | exact hc0 | exact ⟨hc0, hc0⟩ | exact ⟨hc0, hc0, hc0⟩ | (simp only [Bool.and_eq_true] at hc0; simp [hc0]; done) | (simp_all; done))))
      | ((with_reducible apply IdxE.go); (conv => whnf); (with_reducible apply SideD.mk); (focus ((first | (intro hc; have hc0 := hc; (try simp only [SPLT] at hc); (try refine And.intro (by first | exact hc0 | exact ⟨hc0, hc0⟩ | exact ⟨hc0, hc0, hc0⟩) ?_)) | skip); first | exact idx_nat (by assumption) | exact idx_some (by omega) (by assumption) | exact idx_eq (by assumption) (by omega) | exact hc0 | exact ⟨hc0, hc0⟩ | exact ⟨hc0, hc0, hc0⟩ | (simp only [Bool.and_eq_true] at hc0; simp [hc0]; done) | (simp_all; done))))
      | ((with_reducible apply LookE.go); (conv => whnf); (with_reducible apply SideD.mk); (focus ((first | (intro hc; have hc0 := hc; (try simp only [SPLT] at hc); (try refine And.intro (by first | exact hc0 | exact ⟨hc0, hc0⟩ | exact ⟨hc0, hc0, hc0⟩) ?_)) | skip); first | exact ⟨rfl, rfl⟩ | exact rfl | exact hc0 | exact ⟨hc0, hc0⟩ | exact ⟨hc0, hc0, hc0⟩ | (simp only [Bool.and_eq_true] at hc0; simp [hc0]; done) | (simp_all; done))))
      | ((with_reducible apply CallE.go); (conv => whnf); (with_reducible apply SideD.mk); (focus ((first | (intro hc; have hc0 := hc; (try simp only [SPLT] at hc); (try refine And.intro (by first | exact hc0 | exact ⟨hc0, hc0⟩ | exact ⟨hc0, hc0, hc0⟩) ?_)) | skip); first | ((try refine GivesL.mk rfl ?_); first | ((apply gives_go (compare_sem _ _)); (focus (first | exact DLes.refl _ | (repeat (first | exact DLes.nil | ((apply DLes.cons); (focus (first | exact DLe.refl _ | exact DLe.own _ _ | exact DLe.nil _ _ | exact DLe.any _))))))); (focus exact rfl); (all_goals (first | exact rfl | assumption | omega | (simp; omega) | (simp; done))))) | exact hc0 | exact ⟨hc0, hc0⟩ | exact ⟨hc0, hc0, hc0⟩ | (simp only [Bool.and_eq_true] at hc0; simp [hc0]; done) | (simp_all; done))))
      | ((with_reducible apply CallO.go); (conv => whnf); (with_reducible apply SideD.mk); (focus (first | fail)))
      | ((with_reducible apply SideD.mk); (focus ((first | (intro hc; have hc0 := hc; (try simp only [SPLT] at hc); (try refine And.intro (by first | exact hc0 | exact ⟨hc0, hc0⟩ | exact ⟨hc0, hc0, hc0⟩) ?_)) | skip); first | exact ⟨by omega, by omega⟩ | omega | exact ⟨rfl, rfl, by simp only [List.length_map, List.length_append, List.length_cons, List.length_nil]; omega⟩ | exact ⟨rfl, rfl, by simp; omega⟩ | exact ⟨rfl, rfl, by omega⟩ | exact ⟨rfl, by simp; omega⟩ | exact id | (intro h; simp [h]; done) | ((repeat (first | exact trivial | exact rfl | apply And.intro)); done) | (simp; omega) | (refine ⟨?_, ?_, ?_⟩ <;> (simp; omega)) | exact hc0 | exact ⟨hc0, hc0⟩ | exact ⟨hc0, hc0, hc0⟩ | (simp only [Bool.and_eq_true] at hc0; simp [hc0]; done) | (simp_all; done))))
      | ((with_reducible apply DrawR.go0); (focus kernel_rfl))
      | ((with_reducible apply KerB.mk); (focus kernel_rfl))
      | with_reducible apply ends_ret
      | with_reducible apply ends_norm
      | with_reducible apply Halt'.mk
      | ((with_reducible apply CondD.mk) <;> intro hb <;> (try simp only [SPLT] at hb) <;> (try first | contradiction | exact absurd hb (by assumption) | exact absurd (by assumption) hb | (exfalso; omega))))
  all_goals (try exact (false : Bool))
  repeat' ((conv => whnf); first | exact trivial | with_reducible apply And.intro | with_reducible apply endsO_ret | with_reducible apply endsO_norm | exact DLes.nil | with_reducible exact DLe.refl _ | exact DLe.any _ | with_reducible apply DLes.cons | with_reducible exact rle_refl | exact rle_bool rfl | exact rle_int rfl | exact rle_nil rfl | exact rle_sl0 rfl)
  all_goals (conv => whnf)
theorem cmp_less : ∀ a b : Str, Lib.compareBytes a b < 0 ↔ Op.bytesLess a b = true
  | [], [] => by simp [Lib.compareBytes, bl_nil]
  | [], _ :: _ => by simp [Lib.compareBytes, Op.bytesLess]
  | _ :: _, [] => by simp [Lib.compareBytes, bl_nil]
  | x :: a, y :: b => by
    rw [bl_cons]
    unfold Lib.compareBytes
    have h1 : x < y ↔ x.toNat < y.toNat := Iff.rfl
    have h2 : y < x ↔ y.toNat < x.toNat := Iff.rfl
    by_cases hxy : x < y
    · rw [if_pos hxy]
      simp [h1.1 hxy]
    · rw [if_neg hxy]
      by_cases hyx : y < x
      · rw [if_pos hyx]
        have := h2.1 hyx
        refine ⟨fun h => by omega, ?_⟩
        rintro (h | ⟨rfl, _⟩) <;> omega
      · rw [if_neg hyx]
        have he : x = y := UInt8.toNat_inj.1 (by rw [h1] at hxy; rw [h2] at hyx; omega)
        subst he
        rw [cmp_less a b]
        simp
theorem cmp_eq : ∀ a b : Str, Lib.compareBytes a b = 0 ↔ a = b
  | [], [] => by simp [Lib.compareBytes]
  | [], _ :: _ => by simp [Lib.compareBytes]
  | _ :: _, [] => by simp [Lib.compareBytes]
  | x :: a, y :: b => by
    unfold Lib.compareBytes
    have h1 : x < y ↔ x.toNat < y.toNat := Iff.rfl
    have h2 : y < x ↔ y.toNat < x.toNat := Iff.rfl
    by_cases hxy : x < y
    · rw [if_pos hxy]
      have := h1.1 hxy
      refine ⟨fun h => by omega, fun h => ?_⟩
      cases h
      omega
    · rw [if_neg hxy]
      by_cases hyx : y < x
      · rw [if_pos hyx]
        have := h2.1 hyx
        refine ⟨fun h => by omega, fun h => ?_⟩
        cases h
        omega
      · rw [if_neg hyx]
        have he : x = y := UInt8.toNat_inj.1 (by rw [h1] at hxy; rw [h2] at hyx; omega)
        subst he
        rw [cmp_eq a b]
        simp
theorem halves_end {l : List Par} {n : Str} (hr : Rising l) : ∀ (m i j : Nat), j - i ≤ m → Halves l n i j → ∃ k, Halves l n k k
  | 0, i, j, hm, H => by
    have : i = j := by have := H.le; omega
    subst this
    exact ⟨i, H⟩
  | m + 1, i, j, hm, H => by
    by_cases hij : i = j
    · subst hij
      exact ⟨i, H⟩
    · have hle := H.le
      have hlj := H.lj
      have hp := List.getElem?_eq_getElem (l := l) (i := i) (by omega)
      cases hc : Op.bytesLess (l[i]).name n with
      | true => exact halves_end hr m (i + 1) j (by omega) (H.right hr (Nat.le_refl _) (by omega) hp hc)
      | false => exact ⟨i, H.left hr (Nat.le_refl _) (by omega) hp hc⟩
theorem halves_one {l : List Par} {n : Str} {i j : Nat} (H : Halves l n i i) (K : Halves l n j j) : i = j := by
  have key : ∀ {i j : Nat}, Halves l n i i → Halves l n j j → ¬ i < j := fun {i j} H K h => by
    have hj := K.lj
    have hp := List.getElem?_eq_getElem (l := l) (i := i) (by omega)
    have h1 := K.low i _ h hp
    rw [H.high i _ (Nat.le_refl _) hp] at h1
    cases h1
  have h1 := key H K
  have h2 := key K H
  omega
theorem binSearch_sem (l : List Par) (n : Str) (hl : l.length ≤ 1000000) (hr : Rising l) (i : Nat) (hi : Halves l n i i) : Sem Tryd.prog 114 [.sl 0 2 (l.map Par.row), .str n, .fn 115 []] (.tup [.int .i64 i, .bool (isPartnerN l n)]) := by
  refine sem_intro (M := fun t => mem t []) hT hM Tryd.func114 inferInstance rfl rfl rfl rfl rfl rfl ?_
  repeat' (
    (conv => whnf)
    first
      | ((with_reducible apply NumE.go); (conv => whnf); (with_reducible apply SideD.mk); (focus ((first | (intro hc; have hc0 := hc; (try simp only [SPLT] at hc); (try refine And.intro (by first | exact hc0 | exact ⟨hc0, hc0⟩ | exact ⟨hc0, hc0, hc0⟩) ?_)) | skip); first | exact shr_one _ | exact IntWalk.i64_in _ (by omega) | exact IntWalk.u8_in _ (by omega) | exact ⟨by omega, IntWalk.i64_quo _ _ ⟨by omega, by omega, by omega⟩⟩ | exact ⟨by omega, IntWalk.rem_in _ _ (by omega)⟩ | exact IntWalk.u64_in _ (by omega) | exact IntWalk.i32_in _ (by omega) | exact rfl | exact ⟨by omega, rfl⟩ | exact hc0 | exact ⟨hc0, hc0⟩ | exact ⟨hc0, hc0, hc0⟩ | (simp only [Bool.and_eq_true] at hc0; simp [hc0]; done) | (simp_all; done))))
      | ((with_reducible apply IdxE.go); (conv => whnf); (with_reducible apply SideD.mk); (focus ((first | (intro hc; have hc0 := hc; (try simp only [SPLT] at hc); (try refine And.intro (by first | exact hc0 | exact ⟨hc0, hc0⟩ | exact ⟨hc0, hc0, hc0⟩) ?_)) | skip); first | exact idx_nat (by assumption) | exact idx_some (by omega) (by assumption) | exact idx_eq (by assumption) (by omega) | exact hc0 | exact ⟨hc0, hc0⟩ | exact ⟨hc0, hc0, hc0⟩ | (simp only [Bool.and_eq_true] at hc0; simp [hc0]; done) | (simp_all; done))))
      | ((with_reducible apply LookE.go); (conv => whnf); (with_reducible apply SideD.mk); (focus ((first | (intro hc; have hc0 := hc; (try simp only [SPLT] at hc); (try refine And.intro (by first | exact hc0 | exact ⟨hc0, hc0⟩ | exact ⟨hc0, hc0, hc0⟩) ?_)) | skip); first | exact ⟨rfl, rfl⟩ | exact rfl | exact hc0 | exact ⟨hc0, hc0⟩ | exact ⟨hc0, hc0, hc0⟩ | (simp only [Bool.and_eq_true] at hc0; simp [hc0]; done) | (simp_all; done))))
      | ((with_reducible apply CallE.go); (conv => whnf); (with_reducible apply SideD.mk); (focus ((first | (intro hc; have hc0 := hc; (try simp only [SPLT] at hc); (try refine And.intro (by first | exact hc0 | exact ⟨hc0, hc0⟩ | exact ⟨hc0, hc0, hc0⟩) ?_)) | skip); first | ((try refine GivesL.mk rfl ?_); first | ((apply gives_go (isPartner1_sem _ _)); (focus (first | exact DLes.refl _ | (repeat (first | exact DLes.nil | ((apply DLes.cons); (focus (first | exact DLe.refl _ | exact DLe.own _ _ | exact DLe.nil _ _ | exact DLe.any _))))))); (focus exact rfl); (all_goals (first | exact rfl | assumption | omega | (simp; omega) | (simp; done))))) | exact hc0 | exact ⟨hc0, hc0⟩ | exact ⟨hc0, hc0, hc0⟩ | (simp only [Bool.and_eq_true] at hc0; simp [hc0]; done) | (simp_all; done))))
      | ((with_reducible apply CallO.go); (conv => whnf); (with_reducible apply SideD.mk); (focus (first | fail)))
      | ((with_reducible apply SideD.mk); (focus ((first | (intro hc; have hc0 := hc; (try simp only [SPLT] at hc); (try refine And.intro (by first | exact hc0 | exact ⟨hc0, hc0⟩ | exact ⟨hc0, hc0, hc0⟩) ?_)) | skip); first | exact ⟨by omega, by omega⟩ | omega | exact ⟨rfl, rfl, by simp only [List.length_map, List.length_append, List.length_cons, List.length_nil]; omega⟩ | exact ⟨rfl, rfl, by simp; omega⟩ | exact ⟨rfl, rfl, by omega⟩ | exact ⟨rfl, by simp; omega⟩ | exact id | (intro h; simp [h]; done) | ((repeat (first | exact trivial | exact rfl | apply And.intro)); done) | (simp; omega) | (refine ⟨?_, ?_, ?_⟩ <;> (simp; omega)) | exact hc0 | exact ⟨hc0, hc0⟩ | exact ⟨hc0, hc0, hc0⟩ | (simp only [Bool.and_eq_true] at hc0; simp [hc0]; done) | (simp_all; done))))
      | ((with_reducible apply DrawR.go0); (focus kernel_rfl))
      | ((with_reducible apply KerB.mk); (focus kernel_rfl))
      | with_reducible apply ends_ret
      | with_reducible apply ends_norm
      | with_reducible apply Halt'.mk
      | ((with_reducible apply CondD.mk) <;> intro hb <;> (try simp only [SPLT] at hb) <;> (try first | contradiction | exact absurd hb (by assumption) | exact absurd (by assumption) hb | (exfalso; omega))))
  all_goals (try exact (false : Bool))
  refine loop_go (M := fun t => mem t []) hT hM (fun x : Nat × Nat => [(9, .int .i64 x.1), (10, .int .i64 x.2)]) (fun x => Halves l n x.1 x.2) (fun x => x.2 - x.1) ((0, l.length)) ?_ ?_ ?_
  · (conv => whnf)
    refine ⟨?_, by rfl⟩
    repeat' ((conv => whnf); first | exact DLes.nil | with_reducible exact DLe.refl _ | exact DLe.any _ | with_reducible apply DLes.cons | exact DLe.refl _ | exact dle_int (by omega) | exact dle_nil rfl | exact DLe.own _ _ | (exact dle_int (by simp)))
  · exact Halves.start l n
  · rintro x hx
    have hle := hx.le
    have hlj := hx.lj
    by_cases hlt : x.1 < x.2
    · obtain ⟨p, hp⟩ : ∃ p, l[(x.1 + x.2) / 2]? = some p := ⟨l[(x.1 + x.2) / 2], List.getElem?_eq_getElem (by omega)⟩
      repeat' (
        (conv => whnf)
        first
          | ((with_reducible apply NumE.go); (conv => whnf); (with_reducible apply SideD.mk); (focus ((first | (intro hc; have hc0 := hc; (try simp only [SPLT] at hc); (try refine And.intro (by first | exact hc0 | exact ⟨hc0, hc0⟩ | exact ⟨hc0, hc0, hc0⟩) ?_)) | skip); first | exact shr_one _ | exact IntWalk.i64_in _ (by omega) | exact IntWalk.u8_in _ (by omega) | exact ⟨by omega, IntWalk.i64_quo _ _ ⟨by omega, by omega, by omega⟩⟩ | exact ⟨by omega, IntWalk.rem_in _ _ (by omega)⟩ | exact IntWalk.u64_in _ (by omega) | exact IntWalk.i32_in _ (by omega) | exact rfl | exact ⟨by omega, rfl⟩ | exact hc0 | exact ⟨hc0, hc0⟩ | exact ⟨hc0, hc0, hc0⟩ | (simp only [Bool.and_eq_true] at hc0; simp [hc0]; done) | (simp_all; done))))
          | ((with_reducible apply IdxE.go); (conv => whnf); (with_reducible apply SideD.mk); (focus ((first | (intro hc; have hc0 := hc; (try simp only [SPLT] at hc); (try refine And.intro (by first | exact hc0 | exact ⟨hc0, hc0⟩ | exact ⟨hc0, hc0, hc0⟩) ?_)) | skip); first | exact idx_nat (by assumption) | exact idx_some (by omega) (by assumption) | exact idx_eq (by assumption) (by omega) | exact idx_eq hp (by omega) | exact hc0 | exact ⟨hc0, hc0⟩ | exact ⟨hc0, hc0, hc0⟩ | (simp only [Bool.and_eq_true] at hc0; simp [hc0]; done) | (simp_all; done))))
          | ((with_reducible apply LookE.go); (conv => whnf); (with_reducible apply SideD.mk); (focus ((first | (intro hc; have hc0 := hc; (try simp only [SPLT] at hc); (try refine And.intro (by first | exact hc0 | exact ⟨hc0, hc0⟩ | exact ⟨hc0, hc0, hc0⟩) ?_)) | skip); first | (exact idx_eq hp (by omega)) | exact ⟨rfl, rfl⟩ | exact rfl | exact hc0 | exact ⟨hc0, hc0⟩ | exact ⟨hc0, hc0, hc0⟩ | (simp only [Bool.and_eq_true] at hc0; simp [hc0]; done) | (simp_all; done))))
          | ((with_reducible apply CallE.go); (conv => whnf); (with_reducible apply SideD.mk); (focus ((first | (intro hc; have hc0 := hc; (try simp only [SPLT] at hc); (try refine And.intro (by first | exact hc0 | exact ⟨hc0, hc0⟩ | exact ⟨hc0, hc0, hc0⟩) ?_)) | skip); first | ((try refine GivesL.mk rfl ?_); first | ((apply gives_go (isPartner1_sem _ _)); (focus (first | exact DLes.refl _ | (repeat (first | exact DLes.nil | ((apply DLes.cons); (focus (first | exact DLe.refl _ | exact DLe.own _ _ | exact DLe.nil _ _ | exact DLe.any _))))))); (focus exact rfl); (all_goals (first | exact rfl | assumption | omega | (simp; omega) | (simp; done))))) | exact hc0 | exact ⟨hc0, hc0⟩ | exact ⟨hc0, hc0, hc0⟩ | (simp only [Bool.and_eq_true] at hc0; simp [hc0]; done) | (simp_all; done))))
          | ((with_reducible apply CallO.go); (conv => whnf); (with_reducible apply SideD.mk); (focus (first | fail)))
          | ((with_reducible apply SideD.mk); (focus ((first | (intro hc; have hc0 := hc; (try simp only [SPLT] at hc); (try refine And.intro (by first | exact hc0 | exact ⟨hc0, hc0⟩ | exact ⟨hc0, hc0, hc0⟩) ?_)) | skip); first | exact ⟨by omega, by omega⟩ | omega | exact ⟨rfl, rfl, by simp only [List.length_map, List.length_append, List.length_cons, List.length_nil]; omega⟩ | exact ⟨rfl, rfl, by simp; omega⟩ | exact ⟨rfl, rfl, by omega⟩ | exact ⟨rfl, by simp; omega⟩ | exact id | (intro h; simp [h]; done) | ((repeat (first | exact trivial | exact rfl | apply And.intro)); done) | (simp; omega) | (refine ⟨?_, ?_, ?_⟩ <;> (simp; omega)) | exact hc0 | exact ⟨hc0, hc0⟩ | exact ⟨hc0, hc0, hc0⟩ | (simp only [Bool.and_eq_true] at hc0; simp [hc0]; done) | (simp_all; done))))
          | ((with_reducible apply DrawR.go0); (focus kernel_rfl))
          | ((with_reducible apply KerB.mk); (focus kernel_rfl))
          | with_reducible apply ends_ret
          | with_reducible apply ends_norm
          | with_reducible apply Halt'.mk
          | ((with_reducible apply CondD.mk) <;> intro hb <;> (try simp only [SPLT] at hb) <;> (try first | contradiction | exact absurd hb (by assumption) | exact absurd (by assumption) hb | (exfalso; omega))))
      all_goals (try exact (false : Bool))
      · refine ⟨((x.1 + x.2) / 2 + 1, x.2), hx.right hr (by omega) (by omega) hp ((cmp_less _ _).1 hb), by simp only; omega, ?_⟩
        (conv => whnf)
        refine ⟨?_, by rfl⟩
        repeat' ((conv => whnf); first | exact DLes.nil | with_reducible exact DLe.refl _ | exact DLe.any _ | with_reducible apply DLes.cons | exact DLe.refl _ | exact dle_int (by omega) | exact dle_nil rfl | exact DLe.own _ _ | (exact dle_int (by omega)))
      · refine ⟨(x.1, (x.1 + x.2) / 2), hx.left hr (by omega) (by omega) hp (by rw [Bool.eq_false_iff]; intro h; have := (cmp_less p.name n).2 h; omega), by simp only; omega, ?_⟩
        (conv => whnf)
        refine ⟨?_, by rfl⟩
        repeat' ((conv => whnf); first | exact DLes.nil | with_reducible exact DLe.refl _ | exact DLe.any _ | with_reducible apply DLes.cons | exact DLe.refl _ | exact dle_int (by omega) | exact dle_nil rfl | exact DLe.own _ _ | (exact dle_int (by omega)))
    · have he : x.2 = x.1 := by omega
      have hx' : Halves l n x.1 x.1 := by rw [he] at hx; exact hx
      have hii := halves_one hi hx'
      obtain ⟨q, hq⟩ : ∃ q : Par, x.1 < l.length → l[x.1]? = some q := by
        by_cases h : x.1 < l.length
        · exact ⟨l[x.1], fun _ => List.getElem?_eq_getElem h⟩
        · exact ⟨⟨[], []⟩, fun h' => absurd h' h⟩
      have hfin : isPartnerN l n = (decide ((x.1 : Int) < l.length) && (Lib.compareBytes q.name n == 0)) := by
        by_cases h : x.1 < l.length
        · have hd : decide ((x.1 : Int) < l.length) = true := decide_eq_true (by omega)
          rw [hx'.some hr (hq h), hd, Bool.true_and, Bool.eq_iff_iff, decide_eq_true_eq, beq_iff_eq, cmp_eq]
        · have hd : decide ((x.1 : Int) < l.length) = false := decide_eq_false (by omega)
          rw [hx'.none (by omega), hd, Bool.false_and]
      repeat' (
        (conv => whnf)
        first
          | ((with_reducible apply NumE.go); (conv => whnf); (with_reducible apply SideD.mk); (focus ((first | (intro hc; have hc0 := hc; (try simp only [SPLT] at hc); (try refine And.intro (by first | exact hc0 | exact ⟨hc0, hc0⟩ | exact ⟨hc0, hc0, hc0⟩) ?_)) | skip); first | exact shr_one _ | exact IntWalk.i64_in _ (by omega) | exact IntWalk.u8_in _ (by omega) | exact ⟨by omega, IntWalk.i64_quo _ _ ⟨by omega, by omega, by omega⟩⟩ | exact ⟨by omega, IntWalk.rem_in _ _ (by omega)⟩ | exact IntWalk.u64_in _ (by omega) | exact IntWalk.i32_in _ (by omega) | exact rfl | exact ⟨by omega, rfl⟩ | exact hc0 | exact ⟨hc0, hc0⟩ | exact ⟨hc0, hc0, hc0⟩ | (simp only [Bool.and_eq_true] at hc0; simp [hc0]; done) | (simp_all; done))))
          | ((with_reducible apply IdxE.go); (conv => whnf); (with_reducible apply SideD.mk); (focus ((first | (intro hc; have hc0 := hc; (try simp only [SPLT] at hc); (try refine And.intro (by first | exact hc0 | exact ⟨hc0, hc0⟩ | exact ⟨hc0, hc0, hc0⟩) ?_)) | skip); first | exact idx_nat (by assumption) | exact idx_some (by omega) (by assumption) | exact idx_eq (by assumption) (by omega) | exact idx_eq (hq (by omega)) (by omega) | exact hc0 | exact ⟨hc0, hc0⟩ | exact ⟨hc0, hc0, hc0⟩ | (simp only [Bool.and_eq_true] at hc0; simp [hc0]; done) | (simp_all; done))))
          | ((with_reducible apply LookE.go); (conv => whnf); (with_reducible apply SideD.mk); (focus ((first | (intro hc; have hc0 := hc; (try simp only [SPLT] at hc); (try refine And.intro (by first | exact hc0 | exact ⟨hc0, hc0⟩ | exact ⟨hc0, hc0, hc0⟩) ?_)) | skip); first | (exact idx_eq (hq (by omega)) (by omega)) | exact ⟨rfl, rfl⟩ | exact rfl | exact hc0 | exact ⟨hc0, hc0⟩ | exact ⟨hc0, hc0, hc0⟩ | (simp only [Bool.and_eq_true] at hc0; simp [hc0]; done) | (simp_all; done))))
          | ((with_reducible apply CallE.go); (conv => whnf); (with_reducible apply SideD.mk); (focus ((first | (intro hc; have hc0 := hc; (try simp only [SPLT] at hc); (try refine And.intro (by first | exact hc0 | exact ⟨hc0, hc0⟩ | exact ⟨hc0, hc0, hc0⟩) ?_)) | skip); first | ((try refine GivesL.mk rfl ?_); first | ((apply gives_go (isPartner1_sem _ _)); (focus (first | exact DLes.refl _ | (repeat (first | exact DLes.nil | ((apply DLes.cons); (focus (first | exact DLe.refl _ | exact DLe.own _ _ | exact DLe.nil _ _ | exact DLe.any _))))))); (focus exact rfl); (all_goals (first | exact rfl | assumption | omega | (simp; omega) | (simp; done))))) | exact hc0 | exact ⟨hc0, hc0⟩ | exact ⟨hc0, hc0, hc0⟩ | (simp only [Bool.and_eq_true] at hc0; simp [hc0]; done) | (simp_all; done))))
          | ((with_reducible apply CallO.go); (conv => whnf); (with_reducible apply SideD.mk); (focus (first | fail)))
          | ((with_reducible apply SideD.mk); (focus ((first | (intro hc; have hc0 := hc; (try simp only [SPLT] at hc); (try refine And.intro (by first | exact hc0 | exact ⟨hc0, hc0⟩ | exact ⟨hc0, hc0, hc0⟩) ?_)) | skip); first | exact ⟨by omega, by omega⟩ | omega | exact ⟨rfl, rfl, by simp only [List.length_map, List.length_append, List.length_cons, List.length_nil]; omega⟩ | exact ⟨rfl, rfl, by simp; omega⟩ | exact ⟨rfl, rfl, by omega⟩ | exact ⟨rfl, by simp; omega⟩ | exact id | (intro h; simp [h]; done) | ((repeat (first | exact trivial | exact rfl | apply And.intro)); done) | (simp; omega) | (refine ⟨?_, ?_, ?_⟩ <;> (simp; omega)) | exact hc0 | exact ⟨hc0, hc0⟩ | exact ⟨hc0, hc0, hc0⟩ | (simp only [Bool.and_eq_true] at hc0; simp [hc0]; done) | (simp_all; done))))
          | ((with_reducible apply DrawR.go0); (focus kernel_rfl))
          | ((with_reducible apply KerB.mk); (focus kernel_rfl))
          | with_reducible apply ends_ret
          | with_reducible apply ends_norm
          | with_reducible apply Halt'.mk
          | ((with_reducible apply CondD.mk) <;> intro hb <;> (try simp only [SPLT] at hb) <;> (try first | contradiction | exact absurd hb (by assumption) | exact absurd (by assumption) hb | (exfalso; omega))))
      all_goals (try exact (false : Bool))
      repeat' ((conv => whnf); first | exact trivial | with_reducible apply And.intro | with_reducible apply endsO_ret | with_reducible apply endsO_norm | exact DLes.nil | with_reducible exact DLe.refl _ | exact DLe.any _ | with_reducible apply DLes.cons | with_reducible exact rle_refl | exact rle_bool rfl | exact rle_int rfl | exact rle_nil rfl | exact rle_sl0 rfl)
      all_goals (conv => whnf)
      · exact rle_int (by rw [hii])
      · refine rle_bool ?_
        rw [hfin]
        simp
theorem isPartner_sem (l : List Par) (n : Str) (hp : partnersN l = 0) : Sem Tryd.prog 79 [.sl 0 2 (l.map Par.row), .str n] (.bool (isPartnerN l n)) := by
  obtain ⟨hl, hr⟩ := partnersN_ok hp
  obtain ⟨i, hi⟩ := halves_end hr _ 0 l.length (Nat.le_refl _) (Halves.start l n)
  refine sem_intro (M := fun t => mem t []) hT hM Tryd.func79 inferInstance rfl rfl rfl rfl rfl rfl ?_
  repeat' (
    (conv => whnf)
    first
      | ((with_reducible apply NumE.go); (conv => whnf); (with_reducible apply SideD.mk); (focus ((first | (intro hc; have hc0 := hc; (try simp only [SPLT] at hc); (try refine And.intro (by first | exact hc0 | exact ⟨hc0, hc0⟩ | exact ⟨hc0, hc0, hc0⟩) ?_)) | skip); first | exact shr_one _ | exact IntWalk.i64_in _ (by omega) | exact IntWalk.u8_in _ (by omega) | exact ⟨by omega, IntWalk.i64_quo _ _ ⟨by omega, by omega, by omega⟩⟩ | exact ⟨by omega, IntWalk.rem_in _ _ (by omega)⟩ | exact IntWalk.u64_in _ (by omega) | exact IntWalk.i32_in _ (by omega) | exact rfl | exact ⟨by omega, rfl⟩ | exact hc0 | exact ⟨hc0, hc0⟩ | exact ⟨hc0, hc0, hc0⟩ | (simp only [Bool.and_eq_true] at hc0; simp [hc0]; done) | (simp_all; done))))
      | ((with_reducible apply IdxE.go); (conv => whnf); (with_reducible apply SideD.mk); (focus ((first | (intro hc; have hc0 := hc; (try simp only [SPLT] at hc); (try refine And.intro (by first | exact hc0 | exact ⟨hc0, hc0⟩ | exact ⟨hc0, hc0, hc0⟩) ?_)) | skip); first | exact idx_nat (by assumption) | exact idx_some (by omega) (by assumption) | exact idx_eq (by assumption) (by omega) | exact hc0 | exact ⟨hc0, hc0⟩ | exact ⟨hc0, hc0, hc0⟩ | (simp only [Bool.and_eq_true] at hc0; simp [hc0]; done) | (simp_all; done))))
      | ((with_reducible apply LookE.go); (conv => whnf); (with_reducible apply SideD.mk); (focus ((first | (intro hc; have hc0 := hc; (try simp only [SPLT] at hc); (try refine And.intro (by first | exact hc0 | exact ⟨hc0, hc0⟩ | exact ⟨hc0, hc0, hc0⟩) ?_)) | skip); first | exact ⟨rfl, rfl⟩ | exact rfl | exact hc0 | exact ⟨hc0, hc0⟩ | exact ⟨hc0, hc0, hc0⟩ | (simp only [Bool.and_eq_true] at hc0; simp [hc0]; done) | (simp_all; done))))
      | ((with_reducible apply CallE.go); (conv => whnf); (with_reducible apply SideD.mk); (focus ((first | (intro hc; have hc0 := hc; (try simp only [SPLT] at hc); (try refine And.intro (by first | exact hc0 | exact ⟨hc0, hc0⟩ | exact ⟨hc0, hc0, hc0⟩) ?_)) | skip); first | ((try refine GivesL.mk rfl ?_); first | ((apply gives_go (binSearch_sem l n (by omega) hr i hi)); (focus (first | exact DLes.refl _ | (repeat (first | exact DLes.nil | ((apply DLes.cons); (focus (first | exact DLe.refl _ | exact DLe.own _ _ | exact DLe.nil _ _ | exact DLe.any _))))))); (focus exact rfl); (all_goals (first | exact rfl | assumption | omega | (simp; omega) | (simp; done)))) | ((apply gives_go (binSearch_sem _ _ _ _ _ _)); (focus (first | exact DLes.refl _ | (repeat (first | exact DLes.nil | ((apply DLes.cons); (focus (first | exact DLe.refl _ | exact DLe.own _ _ | exact DLe.nil _ _ | exact DLe.any _))))))); (focus exact rfl); (all_goals (first | exact rfl | assumption | omega | (simp; omega) | (simp; done))))) | exact hc0 | exact ⟨hc0, hc0⟩ | exact ⟨hc0, hc0, hc0⟩ | (simp only [Bool.and_eq_true] at hc0; simp [hc0]; done) | (simp_all; done))))
      | ((with_reducible apply CallO.go); (conv => whnf); (with_reducible apply SideD.mk); (focus (first | fail)))
      | ((with_reducible apply SideD.mk); (focus ((first | (intro hc; have hc0 := hc; (try simp only [SPLT] at hc); (try refine And.intro (by first | exact hc0 | exact ⟨hc0, hc0⟩ | exact ⟨hc0, hc0, hc0⟩) ?_)) | skip); first | exact ⟨by omega, by omega⟩ | omega | exact ⟨rfl, rfl, by simp only [List.length_map, List.length_append, List.length_cons, List.length_nil]; omega⟩ | exact ⟨rfl, rfl, by simp; omega⟩ | exact ⟨rfl, rfl, by omega⟩ | exact ⟨rfl, by simp; omega⟩ | exact id | (intro h; simp [h]; done) | ((repeat (first | exact trivial | exact rfl | apply And.intro)); done) | (simp; omega) | (refine ⟨?_, ?_, ?_⟩ <;> (simp; omega)) | exact hc0 | exact ⟨hc0, hc0⟩ | exact ⟨hc0, hc0, hc0⟩ | (simp only [Bool.and_eq_true] at hc0; simp [hc0]; done) | (simp_all; done))))
      | ((with_reducible apply DrawR.go0); (focus kernel_rfl))
      | ((with_reducible apply KerB.mk); (focus kernel_rfl))
      | with_reducible apply ends_ret
      | with_reducible apply ends_norm
      | with_reducible apply Halt'.mk
      | ((with_reducible apply CondD.mk) <;> intro hb <;> (try simp only [SPLT] at hb) <;> (try first | contradiction | exact absurd hb (by assumption) | exact absurd (by assumption) hb | (exfalso; omega))))
  all_goals (try exact (false : Bool))
  repeat' ((conv => whnf); first | exact trivial | with_reducible apply And.intro | with_reducible apply endsO_ret | with_reducible apply endsO_norm | exact DLes.nil | with_reducible exact DLe.refl _ | exact DLe.any _ | with_reducible apply DLes.cons | with_reducible exact rle_refl | exact rle_bool rfl | exact rle_int rfl | exact rle_nil rfl | exact rle_sl0 rfl)
  all_goals (conv => whnf)
theorem isPartner8_sem (l : List Par) (n : Str) (hp : partnersN l = 0) : Sem Tryd.prog 80 [.sl 0 2 (l.map Par.row), .str n] (.bool (isPartnerN l n)) := by
  obtain ⟨hl, hr⟩ := partnersN_ok hp
  refine sem_intro (M := fun t => mem t []) hT hM Tryd.func80 inferInstance rfl rfl rfl rfl rfl rfl ?_
  repeat' (
    (conv => whnf)
    first
      | ((with_reducible apply NumE.go); (conv => whnf); (with_reducible apply SideD.mk); (focus ((first | (intro hc; have hc0 := hc; (try simp only [SPLT] at hc); (try refine And.intro (by first | exact hc0 | exact ⟨hc0, hc0⟩ | exact ⟨hc0, hc0, hc0⟩) ?_)) | skip); first | exact shr_one _ | exact IntWalk.i64_in _ (by omega) | exact IntWalk.u8_in _ (by omega) | exact ⟨by omega, IntWalk.i64_quo _ _ ⟨by omega, by omega, by omega⟩⟩ | exact ⟨by omega, IntWalk.rem_in _ _ (by omega)⟩ | exact IntWalk.u64_in _ (by omega) | exact IntWalk.i32_in _ (by omega) | exact rfl | exact ⟨by omega, rfl⟩ | exact hc0 | exact ⟨hc0, hc0⟩ | exact ⟨hc0, hc0, hc0⟩ | (simp only [Bool.and_eq_true] at hc0; simp [hc0]; done) | (simp_all; done))))
      | ((with_reducible apply IdxE.go); (conv => whnf); (with_reducible apply SideD.mk); (focus ((first | (intro hc; have hc0 := hc; (try simp only [SPLT] at hc); (try refine And.intro (by first | exact hc0 | exact ⟨hc0, hc0⟩ | exact ⟨hc0, hc0, hc0⟩) ?_)) | skip); first | exact idx_nat (by assumption) | exact idx_some (by omega) (by assumption) | exact idx_eq (by assumption) (by omega) | exact hc0 | exact ⟨hc0, hc0⟩ | exact ⟨hc0, hc0, hc0⟩ | (simp only [Bool.and_eq_true] at hc0; simp [hc0]; done) | (simp_all; done))))
      | ((with_reducible apply LookE.go); (conv => whnf); (with_reducible apply SideD.mk); (focus ((first | (intro hc; have hc0 := hc; (try simp only [SPLT] at hc); (try refine And.intro (by first | exact hc0 | exact ⟨hc0, hc0⟩ | exact ⟨hc0, hc0, hc0⟩) ?_)) | skip); first | exact ⟨rfl, rfl⟩ | exact rfl | exact hc0 | exact ⟨hc0, hc0⟩ | exact ⟨hc0, hc0, hc0⟩ | (simp only [Bool.and_eq_true] at hc0; simp [hc0]; done) | (simp_all; done))))
      | ((with_reducible apply CallE.go); (conv => whnf); (with_reducible apply SideD.mk); (focus ((first | (intro hc; have hc0 := hc; (try simp only [SPLT] at hc); (try refine And.intro (by first | exact hc0 | exact ⟨hc0, hc0⟩ | exact ⟨hc0, hc0, hc0⟩) ?_)) | skip); first | ((try refine GivesL.mk rfl ?_); first | fail) | exact hc0 | exact ⟨hc0, hc0⟩ | exact ⟨hc0, hc0, hc0⟩ | (simp only [Bool.and_eq_true] at hc0; simp [hc0]; done) | (simp_all; done))))
      | ((with_reducible apply CallO.go); (conv => whnf); (with_reducible apply SideD.mk); (focus (first | fail)))
      | ((with_reducible apply SideD.mk); (focus ((first | (intro hc; have hc0 := hc; (try simp only [SPLT] at hc); (try refine And.intro (by first | exact hc0 | exact ⟨hc0, hc0⟩ | exact ⟨hc0, hc0, hc0⟩) ?_)) | skip); first | exact ⟨by omega, by omega⟩ | omega | exact ⟨rfl, rfl, by simp only [List.length_map, List.length_append, List.length_cons, List.length_nil]; omega⟩ | exact ⟨rfl, rfl, by simp; omega⟩ | exact ⟨rfl, rfl, by omega⟩ | exact ⟨rfl, by simp; omega⟩ | exact id | (intro h; simp [h]; done) | ((repeat (first | exact trivial | exact rfl | apply And.intro)); done) | (simp; omega) | (refine ⟨?_, ?_, ?_⟩ <;> (simp; omega)) | exact hc0 | exact ⟨hc0, hc0⟩ | exact ⟨hc0, hc0, hc0⟩ | (simp only [Bool.and_eq_true] at hc0; simp [hc0]; done) | (simp_all; done))))
      | ((with_reducible apply DrawR.go0); (focus kernel_rfl))
      | ((with_reducible apply KerB.mk); (focus kernel_rfl))
      | with_reducible apply ends_ret
      | with_reducible apply ends_norm
      | with_reducible apply Halt'.mk
      | ((with_reducible apply CondD.mk) <;> intro hb <;> (try simp only [SPLT] at hb) <;> (try first | contradiction | exact absurd hb (by assumption) | exact absurd (by assumption) hb | (exfalso; omega))))
  all_goals (try exact (false : Bool))
  refine loop_go (M := fun t => mem t []) hT hM (fun k : Nat => [(9, .int .i64 k)]) (fun k => k ≤ l.length ∧ (l.take k).any (fun p => p.name == n) = false) (fun k => l.length - k) (0) ?_ ?_ ?_
  · (conv => whnf)
    refine ⟨?_, by rfl⟩
    repeat' ((conv => whnf); first | exact DLes.nil | with_reducible exact DLe.refl _ | exact DLe.any _ | with_reducible apply DLes.cons | exact DLe.refl _ | exact dle_int (by omega) | exact dle_nil rfl | exact DLe.own _ _)
  · exact ⟨Nat.zero_le _, rfl⟩
  · rintro k ⟨hk, hno⟩
    rcases hx : l[k]? with _ | p
    · have hk' : k = l.length := by have := List.getElem?_eq_none_iff.1 hx; omega
      subst hk'
      rw [List.take_length] at hno
      repeat' (
        (conv => whnf)
        first
          | ((with_reducible apply NumE.go); (conv => whnf); (with_reducible apply SideD.mk); (focus ((first | (intro hc; have hc0 := hc; (try simp only [SPLT] at hc); (try refine And.intro (by first | exact hc0 | exact ⟨hc0, hc0⟩ | exact ⟨hc0, hc0, hc0⟩) ?_)) | skip); first | exact shr_one _ | exact IntWalk.i64_in _ (by omega) | exact IntWalk.u8_in _ (by omega) | exact ⟨by omega, IntWalk.i64_quo _ _ ⟨by omega, by omega, by omega⟩⟩ | exact ⟨by omega, IntWalk.rem_in _ _ (by omega)⟩ | exact IntWalk.u64_in _ (by omega) | exact IntWalk.i32_in _ (by omega) | exact rfl | exact ⟨by omega, rfl⟩ | exact hc0 | exact ⟨hc0, hc0⟩ | exact ⟨hc0, hc0, hc0⟩ | (simp only [Bool.and_eq_true] at hc0; simp [hc0]; done) | (simp_all; done))))
          | ((with_reducible apply IdxE.go); (conv => whnf); (with_reducible apply SideD.mk); (focus ((first | (intro hc; have hc0 := hc; (try simp only [SPLT] at hc); (try refine And.intro (by first | exact hc0 | exact ⟨hc0, hc0⟩ | exact ⟨hc0, hc0, hc0⟩) ?_)) | skip); first | exact idx_nat (by assumption) | exact idx_some (by omega) (by assumption) | exact idx_eq (by assumption) (by omega) | exact hc0 | exact ⟨hc0, hc0⟩ | exact ⟨hc0, hc0, hc0⟩ | (simp only [Bool.and_eq_true] at hc0; simp [hc0]; done) | (simp_all; done))))
          | ((with_reducible apply LookE.go); (conv => whnf); (with_reducible apply SideD.mk); (focus ((first | (intro hc; have hc0 := hc; (try simp only [SPLT] at hc); (try refine And.intro (by first | exact hc0 | exact ⟨hc0, hc0⟩ | exact ⟨hc0, hc0, hc0⟩) ?_)) | skip); first | exact ⟨rfl, rfl⟩ | exact rfl | exact hc0 | exact ⟨hc0, hc0⟩ | exact ⟨hc0, hc0, hc0⟩ | (simp only [Bool.and_eq_true] at hc0; simp [hc0]; done) | (simp_all; done))))
          | ((with_reducible apply CallE.go); (conv => whnf); (with_reducible apply SideD.mk); (focus ((first | (intro hc; have hc0 := hc; (try simp only [SPLT] at hc); (try refine And.intro (by first | exact hc0 | exact ⟨hc0, hc0⟩ | exact ⟨hc0, hc0, hc0⟩) ?_)) | skip); first | ((try refine GivesL.mk rfl ?_); first | fail) | exact hc0 | exact ⟨hc0, hc0⟩ | exact ⟨hc0, hc0, hc0⟩ | (simp only [Bool.and_eq_true] at hc0; simp [hc0]; done) | (simp_all; done))))
          | ((with_reducible apply CallO.go); (conv => whnf); (with_reducible apply SideD.mk); (focus (first | fail)))
          | ((with_reducible apply SideD.mk); (focus ((first | (intro hc; have hc0 := hc; (try simp only [SPLT] at hc); (try refine And.intro (by first | exact hc0 | exact ⟨hc0, hc0⟩ | exact ⟨hc0, hc0, hc0⟩) ?_)) | skip); first | exact ⟨by omega, by omega⟩ | omega | exact ⟨rfl, rfl, by simp only [List.length_map, List.length_append, List.length_cons, List.length_nil]; omega⟩ | exact ⟨rfl, rfl, by simp; omega⟩ | exact ⟨rfl, rfl, by omega⟩ | exact ⟨rfl, by simp; omega⟩ | exact id | (intro h; simp [h]; done) | ((repeat (first | exact trivial | exact rfl | apply And.intro)); done) | (simp; omega) | (refine ⟨?_, ?_, ?_⟩ <;> (simp; omega)) | exact hc0 | exact ⟨hc0, hc0⟩ | exact ⟨hc0, hc0, hc0⟩ | (simp only [Bool.and_eq_true] at hc0; simp [hc0]; done) | (simp_all; done))))
          | ((with_reducible apply DrawR.go0); (focus kernel_rfl))
          | ((with_reducible apply KerB.mk); (focus kernel_rfl))
          | with_reducible apply ends_ret
          | with_reducible apply ends_norm
          | with_reducible apply Halt'.mk
          | ((with_reducible apply CondD.mk) <;> intro hb <;> (try simp only [SPLT] at hb) <;> (try first | contradiction | exact absurd hb (by assumption) | exact absurd (by assumption) hb | (exfalso; omega))))
      all_goals (try exact (false : Bool))
      repeat' ((conv => whnf); first | exact trivial | with_reducible apply And.intro | with_reducible apply endsO_ret | with_reducible apply endsO_norm | exact DLes.nil | with_reducible exact DLe.refl _ | exact DLe.any _ | with_reducible apply DLes.cons | with_reducible exact rle_refl | exact rle_bool rfl | exact rle_int rfl | exact rle_nil rfl | exact rle_sl0 rfl)
      all_goals (conv => whnf)
      exact rle_bool hno.symm
    · have hlt := (List.getElem?_eq_some_iff.1 hx).1
      repeat' (
        (conv => whnf)
        first
          | ((with_reducible apply NumE.go); (conv => whnf); (with_reducible apply SideD.mk); (focus ((first | (intro hc; have hc0 := hc; (try simp only [SPLT] at hc); (try refine And.intro (by first | exact hc0 | exact ⟨hc0, hc0⟩ | exact ⟨hc0, hc0, hc0⟩) ?_)) | skip); first | exact shr_one _ | exact IntWalk.i64_in _ (by omega) | exact IntWalk.u8_in _ (by omega) | exact ⟨by omega, IntWalk.i64_quo _ _ ⟨by omega, by omega, by omega⟩⟩ | exact ⟨by omega, IntWalk.rem_in _ _ (by omega)⟩ | exact IntWalk.u64_in _ (by omega) | exact IntWalk.i32_in _ (by omega) | exact rfl | exact ⟨by omega, rfl⟩ | exact hc0 | exact ⟨hc0, hc0⟩ | exact ⟨hc0, hc0, hc0⟩ | (simp only [Bool.and_eq_true] at hc0; simp [hc0]; done) | (simp_all; done))))
          | ((with_reducible apply IdxE.go); (conv => whnf); (with_reducible apply SideD.mk); (focus ((first | (intro hc; have hc0 := hc; (try simp only [SPLT] at hc); (try refine And.intro (by first | exact hc0 | exact ⟨hc0, hc0⟩ | exact ⟨hc0, hc0, hc0⟩) ?_)) | skip); first | exact idx_nat (by assumption) | exact idx_some (by omega) (by assumption) | exact idx_eq (by assumption) (by omega) | exact hc0 | exact ⟨hc0, hc0⟩ | exact ⟨hc0, hc0, hc0⟩ | (simp only [Bool.and_eq_true] at hc0; simp [hc0]; done) | (simp_all; done))))
          | ((with_reducible apply LookE.go); (conv => whnf); (with_reducible apply SideD.mk); (focus ((first | (intro hc; have hc0 := hc; (try simp only [SPLT] at hc); (try refine And.intro (by first | exact hc0 | exact ⟨hc0, hc0⟩ | exact ⟨hc0, hc0, hc0⟩) ?_)) | skip); first | exact ⟨rfl, rfl⟩ | exact rfl | exact hc0 | exact ⟨hc0, hc0⟩ | exact ⟨hc0, hc0, hc0⟩ | (simp only [Bool.and_eq_true] at hc0; simp [hc0]; done) | (simp_all; done))))
          | ((with_reducible apply CallE.go); (conv => whnf); (with_reducible apply SideD.mk); (focus ((first | (intro hc; have hc0 := hc; (try simp only [SPLT] at hc); (try refine And.intro (by first | exact hc0 | exact ⟨hc0, hc0⟩ | exact ⟨hc0, hc0, hc0⟩) ?_)) | skip); first | ((try refine GivesL.mk rfl ?_); first | fail) | exact hc0 | exact ⟨hc0, hc0⟩ | exact ⟨hc0, hc0, hc0⟩ | (simp only [Bool.and_eq_true] at hc0; simp [hc0]; done) | (simp_all; done))))
          | ((with_reducible apply CallO.go); (conv => whnf); (with_reducible apply SideD.mk); (focus (first | fail)))
          | ((with_reducible apply SideD.mk); (focus ((first | (intro hc; have hc0 := hc; (try simp only [SPLT] at hc); (try refine And.intro (by first | exact hc0 | exact ⟨hc0, hc0⟩ | exact ⟨hc0, hc0, hc0⟩) ?_)) | skip); first | exact ⟨by omega, by omega⟩ | omega | exact ⟨rfl, rfl, by simp only [List.length_map, List.length_append, List.length_cons, List.length_nil]; omega⟩ | exact ⟨rfl, rfl, by simp; omega⟩ | exact ⟨rfl, rfl, by omega⟩ | exact ⟨rfl, by simp; omega⟩ | exact id | (intro h; simp [h]; done) | ((repeat (first | exact trivial | exact rfl | apply And.intro)); done) | (simp; omega) | (refine ⟨?_, ?_, ?_⟩ <;> (simp; omega)) | exact hc0 | exact ⟨hc0, hc0⟩ | exact ⟨hc0, hc0, hc0⟩ | (simp only [Bool.and_eq_true] at hc0; simp [hc0]; done) | (simp_all; done))))
          | ((with_reducible apply DrawR.go0); (focus kernel_rfl))
          | ((with_reducible apply KerB.mk); (focus kernel_rfl))
          | with_reducible apply ends_ret
          | with_reducible apply ends_norm
          | with_reducible apply Halt'.mk
          | ((with_reducible apply CondD.mk) <;> intro hb <;> (try simp only [SPLT] at hb) <;> (try first | contradiction | exact absurd hb (by assumption) | exact absurd (by assumption) hb | (exfalso; omega))))
      all_goals (try exact (false : Bool))
      · repeat' ((conv => whnf); first | exact trivial | with_reducible apply And.intro | with_reducible apply endsO_ret | with_reducible apply endsO_norm | exact DLes.nil | with_reducible exact DLe.refl _ | exact DLe.any _ | with_reducible apply DLes.cons | with_reducible exact rle_refl | exact rle_bool rfl | exact rle_int rfl | exact rle_nil rfl | exact rle_sl0 rfl)
        all_goals (conv => whnf)
        refine rle_bool (Eq.symm (List.any_eq_true.2 ⟨p, List.mem_of_getElem? hx, by simpa using hb⟩))
      · refine ⟨k + 1, ⟨by omega, ?_⟩, by omega, ?_⟩
        · rw [take_at hx, List.any_append, hno]
          simpa using hb
        · (conv => whnf)
          refine ⟨?_, by rfl⟩
          repeat' ((conv => whnf); first | exact DLes.nil | with_reducible exact DLe.refl _ | exact DLe.any _ | with_reducible apply DLes.cons | exact DLe.refl _ | exact dle_int (by omega) | exact dle_nil rfl | exact DLe.own _ _)
end Go.Proofs.YtdopillligfdiaaDoor
