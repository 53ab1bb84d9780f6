/- Notes: the reference's walk, but for one kind (by named ideals). -/
import Derived.Test.YtbphihljkbdfpaaGreatDoorZ16
namespace Go.Proofs.YtbphihljkbdfpaaGreatDoor
set_option linter.unusedSimpArgs false
set_option linter.unusedVariables false
open Go.RowKit
set_option maxRecDepth 100000
set_option maxHeartbeats 6000000

theorem ofNote4_b (tag : Str) (c : UInt8) (els : List Int) (hs : tag.length ≤ 9223372036854775807) (h0 : noteErr tag c els = 0) (h69 : c.toNat ≠ 69) : Sem Tryz.prog 8 [.str tag, .int .u8 c.toNat, .sl 0 1 (els.map numR)] (.tup [.agg (noteC c (els.map (atC tag))).row, .int .i64 0]) := by
  have ht := isTag2_sem tag hs
  obtain ⟨g1, g2, g3, g4, g5⟩ := note_ok h0
  have hlen := tag_len g1
  rw [g1] at ht
  have hc5 : (c.toNat : Int) = 80 ∨ (c.toNat : Int) = 82 ∨ (c.toNat : Int) = 69 ∨ (c.toNat : Int) = 67 ∨ (c.toNat : Int) = 76 := by
    unfold isNote at g2
    simp at g2
    omega
  have he2 : elsErr [] els = 0 := by
    rw [noteErr, if_neg (by simp_all), if_neg (by simp_all), if_neg (by omega), if_neg (by omega)] at h0
    exact h0
  clear h0 g1 g2
  obtain ⟨cc, hcc⟩ : ∃ cc, cc = noteC c (els.map (atC tag)) := ⟨_, rfl⟩
  rw [← hcc]
  obtain ⟨k, ks, p, vs, low, high⟩ := cc
  have hy1 : [D.int .i64 k, D.sl 0 6 (ks.map Cond.row), D.str p, D.sl 0 1 (vs.map fun s => [D.str s]), D.int .i64 low, D.int .i64 high] = (noteC c (els.map (atC tag))).row := by rw [← hcc, Cond.row_mk]
  rw [Cond.row_mk]
  clear hcc
  refine sem_intro (M := fun t => mem t [6, 8, 5000028, 5000030, 5000038]) hT hM Tryz.func8 inferInstance rfl rfl rfl rfl rfl rfl ?_
  repeat' (
    (conv => whnf)
    first
      | ((with_reducible apply DrawI.at 103 idl8_28); (focus exact rfl); (focus kernel_rfl))
      | ((with_reducible apply DrawI.at 114 idl8_30); (focus exact rfl); (focus kernel_rfl))
      | ((with_reducible apply DrawI.at 137 idl8_38); (focus exact rfl); (focus kernel_rfl))
      | with_reducible apply ExE.go
      | ((with_reducible apply EqF.mk); (focus exact rfl))
      | with_reducible apply AndI.mk
      | with_reducible exact trivial
      | ((try ((first | with_reducible apply NumE.go | with_reducible apply IdxE.go | with_reducible apply TextE.go | with_reducible apply LookE.go | with_reducible apply CallE.go); (conv => whnf))); (with_reducible apply SideD.mk); (focus ((first | (intro hc; have hc0 := hc; (try simp only [SPLT] at hc); (try refine And.intro (by first | exact hc0 | exact ⟨hc0, hc0⟩ | exact ⟨hc0, hc0, hc0⟩) ?_)) | skip); first | exact idx_nat (by assumption) | exact idx_some (by omega) (by assumption) | exact idx_eq (by assumption) (by omega) | ((try apply givesl); (focus (first | ((apply gives_go (ht)); (focus (first | exact DLes.refl _ | (repeat (first | exact DLes.nil | ((apply DLes.cons); (focus (first | exact DLe.refl _ | exact DLe.own _ _ | exact DLe.nil _ _ | exact DLe.any _))))))); (focus exact rfl); (all_goals (first | exact rfl | assumption | omega | (simp; omega) | (simp; done)))) | ((first | apply gives_go (isTag2_sem _ _) | apply gives_go (within_sem _ _ _) | apply gives_go (digits4_sem _ _ _) | apply gives_go (r4AllX_sem _) | apply gives_go (r4AnyX_sem _) | apply gives_go (r4NotX_sem _ _ _ _ _ _)); (focus (first | exact DLes.refl _ | (repeat (first | exact DLes.nil | ((apply DLes.cons); (focus (first | exact DLe.refl _ | exact DLe.own _ _ | exact DLe.nil _ _ | exact DLe.any _))))))); (focus exact rfl); (all_goals (first | exact rfl | assumption | omega | (simp; omega) | (simp; done)))))); (all_goals exact rfl)) | exact IntWalk.i64_in _ (by omega) | exact IntWalk.u8_in _ (by omega) | exact IntWalk.u64_in _ (by omega) | exact IntWalk.i32_in _ (by omega) | exact rfl | exact ⟨by omega, rfl⟩ | exact ⟨rfl, rfl⟩ | assumption | exact ⟨by omega, by omega⟩ | exact ⟨by omega, by simp; omega⟩ | omega | exact ⟨rfl, rfl, by simp only [List.length_map, List.length_append, List.length_cons, List.length_nil]; omega⟩ | exact ⟨rfl, rfl, by simp; omega⟩ | exact ⟨rfl, rfl, by omega⟩ | exact ⟨rfl, by simp; omega⟩ | exact id | (intro h; simp [h]; done) | ((repeat (first | exact trivial | exact rfl | apply And.intro)); done) | (simp; omega) | (refine ⟨?_, ?_, ?_⟩ <;> first | omega | (simp; done) | (simp; omega)) | exact hc0 | exact ⟨hc0, hc0⟩ | exact ⟨hc0, hc0, hc0⟩ | (simp only [Bool.and_eq_true] at hc0; simp [hc0]; done) | (simp_all; done))))
      | ((first | with_reducible apply DrawR.go0 | with_reducible apply KerB.mk); (focus kernel_rfl))
      | (first | with_reducible apply ends_ret | with_reducible apply ends_norm | with_reducible apply Halt'.mk)
      | ((with_reducible apply CondD.mk) <;> intro hb <;> (try simp only [SPLT] at hb) <;> (try first | contradiction | exact absurd hb (by assumption) | exact absurd (by assumption) hb | (exfalso; omega) | (exfalso; simp at hb; done))))
  all_goals (try exact (false : Bool))
  refine loop_go (M := fun t => mem t [6, 8, 5000028, 5000030, 5000038]) hT hM (fun i : Nat => [(9, .sl 2 6 (((els.take i).map (atC tag)).map Cond.row)), (10, .int .i64 i)]) (fun i => i ≤ els.length ∧ elsErr (els.take i) (els.drop i) = 0) (fun i => els.length - i) (0) ?_ ?_ ?_
  · (conv => whnf)
    refine ⟨?_, by rfl⟩
    repeat' ((conv => whnf); first | exact DLes.nil | with_reducible exact DLe.refl _ | exact DLe.any _ | with_reducible apply DLes.cons | exact DLe.refl _ | exact dle_int (by omega) | exact dle_nil rfl | exact DLe.own _ _)
  · exact ⟨by omega, he2⟩
  · rintro i ⟨hi, hv⟩
    clear he2
    cases hx : els[i]? with
    | none =>
      have hn := List.getElem?_eq_none_iff.1 hx
      rw [List.take_of_length_le hn]
      have hll : (els.map (atC tag)).length = els.length := List.length_map _
      generalize els.map (atC tag) = l at hy1 hll
      obtain ⟨a, ha⟩ : ∃ a, l[0]? = some a := ⟨l[0]'(by omega), by simp⟩
      have hah : l.headD noneC = a := by rw [← List.head?_eq_getElem?] at ha; simp [List.headD_eq_head?_getD, ha]
      rw [noteC, hah] at hy1
      clear hah
      obtain ⟨k0, ks0, p0, vs0, lo0, hi0⟩ := a
      have htl : l.tail.map Cond.row = List.drop (Int.toNat 1) (List.take ((l.map Cond.row).length : Int).toNat (l.map Cond.row)) := by rw [part_eq]; simp
      repeat' (
        (conv => whnf)
        first
          | ((with_reducible apply DrawI.at 103 idl8_28); (focus exact rfl); (focus kernel_rfl))
          | ((with_reducible apply DrawI.at 114 idl8_30); (focus exact rfl); (focus kernel_rfl))
          | ((with_reducible apply DrawI.at 137 idl8_38); (focus exact rfl); (focus kernel_rfl))
          | with_reducible apply ExE.go
          | ((with_reducible apply EqF.mk); (focus exact rfl))
          | with_reducible apply AndI.mk
          | with_reducible exact trivial
          | ((try ((first | with_reducible apply NumE.go | with_reducible apply IdxE.go | with_reducible apply TextE.go | with_reducible apply LookE.go | with_reducible apply CallE.go); (conv => whnf))); (with_reducible apply SideD.mk); (focus ((first | (intro hc; have hc0 := hc; (try simp only [SPLT] at hc); (try refine And.intro (by first | exact hc0 | exact ⟨hc0, hc0⟩ | exact ⟨hc0, hc0, hc0⟩) ?_)) | skip); first | (exact idx_row ha rfl) | exact idx_nat (by assumption) | exact idx_some (by omega) (by assumption) | exact idx_eq (by assumption) (by omega) | ((try apply givesl); (focus (((first | apply gives_go (r4AllX_sem _) | apply gives_go (r4AnyX_sem _) | apply gives_go (r4NotX_sem _ _ _ _ _ _) | apply gives_go (isTag2_sem _ _) | apply gives_go (within_sem _ _ _) | apply gives_go (digits4_sem _ _ _)); (focus (first | exact DLes.refl _ | (repeat (first | exact DLes.nil | ((apply DLes.cons); (focus (first | exact DLe.refl _ | exact DLe.own _ _ | exact DLe.nil _ _ | exact DLe.any _))))))); (focus exact rfl); (all_goals (first | exact rfl | assumption | omega | (simp; omega) | (simp; done)))))); (all_goals exact rfl)) | exact IntWalk.i64_in _ (by omega) | exact IntWalk.u8_in _ (by omega) | exact IntWalk.u64_in _ (by omega) | exact IntWalk.i32_in _ (by omega) | exact rfl | exact ⟨by omega, rfl⟩ | exact ⟨rfl, rfl⟩ | assumption | exact ⟨by omega, by omega⟩ | exact ⟨by omega, by simp; omega⟩ | omega | exact ⟨rfl, rfl, by simp only [List.length_map, List.length_append, List.length_cons, List.length_nil]; omega⟩ | exact ⟨rfl, rfl, by simp; omega⟩ | exact ⟨rfl, rfl, by omega⟩ | exact ⟨rfl, by simp; omega⟩ | exact id | (intro h; simp [h]; done) | ((repeat (first | exact trivial | exact rfl | apply And.intro)); done) | (simp; omega) | (refine ⟨?_, ?_, ?_⟩ <;> first | omega | (simp; done) | (simp; omega)) | exact hc0 | exact ⟨hc0, hc0⟩ | exact ⟨hc0, hc0, hc0⟩ | (simp only [Bool.and_eq_true] at hc0; simp [hc0]; done) | (simp_all; done))))
          | ((first | with_reducible apply DrawR.go0 | with_reducible apply KerB.mk); (focus kernel_rfl))
          | (first | with_reducible apply ends_ret | with_reducible apply ends_norm | with_reducible apply Halt'.mk)
          | ((with_reducible apply CondD.mk) <;> intro hb <;> (try simp only [SPLT] at hb) <;> (try first | contradiction | exact absurd hb (by assumption) | exact absurd (by assumption) hb | (exfalso; omega) | (exfalso; simp at hb; done))))
      all_goals (try exact (false : Bool))
      · repeat' ((conv => whnf); first | exact trivial | with_reducible apply And.intro | with_reducible apply endsO_ret | with_reducible apply endsO_norm | exact DLes.nil | with_reducible exact DLe.refl _ | exact DLe.any _ | with_reducible apply DLes.cons | with_reducible exact rle_refl | exact rle_bool rfl | exact rle_int rfl | exact rle_nil rfl | exact rle_sl0 rfl)
        all_goals (conv => whnf)
        rw [hy1, if_pos (by omega)]
        simp only [anyC, allC, notC, Cond.row_mk, List.map_cons, List.map_nil, htl]
        (first | refine rle_agg ?_ | refine dle_agg ?_ | skip)
        repeat' (first | exact DLes.nil | with_reducible exact DLe.refl _ | exact DLe.any _ | with_reducible apply DLes.cons | with_reducible apply dle_agg | exact DLe.refl _ | exact dle_int (by omega) | exact dle_nil rfl | exact DLe.own _ _)
      · repeat' ((conv => whnf); first | exact trivial | with_reducible apply And.intro | with_reducible apply endsO_ret | with_reducible apply endsO_norm | exact DLes.nil | with_reducible exact DLe.refl _ | exact DLe.any _ | with_reducible apply DLes.cons | with_reducible exact rle_refl | exact rle_bool rfl | exact rle_int rfl | exact rle_nil rfl | exact rle_sl0 rfl)
        all_goals (conv => whnf)
        rw [hy1, if_neg (by omega), if_neg (by omega), if_neg (by omega), if_neg (by omega)]
        simp only [anyC, allC, notC, Cond.row_mk, List.map_cons, List.map_nil, htl]
        (first | refine rle_agg ?_ | refine dle_agg ?_ | skip)
        repeat' (first | exact DLes.nil | with_reducible exact DLe.refl _ | exact DLe.any _ | with_reducible apply DLes.cons | with_reducible apply dle_agg | exact DLe.refl _ | exact dle_int (by omega) | exact dle_nil rfl | exact DLe.own _ _)
      · repeat' ((conv => whnf); first | exact trivial | with_reducible apply And.intro | with_reducible apply endsO_ret | with_reducible apply endsO_norm | exact DLes.nil | with_reducible exact DLe.refl _ | exact DLe.any _ | with_reducible apply DLes.cons | with_reducible exact rle_refl | exact rle_bool rfl | exact rle_int rfl | exact rle_nil rfl | exact rle_sl0 rfl)
        all_goals (conv => whnf)
        rw [hy1, if_neg (by omega), if_neg (by omega), if_pos (by omega)]
        simp only [anyC, allC, notC, Cond.row_mk, List.map_cons, List.map_nil, htl]
        (first | refine rle_agg ?_ | refine dle_agg ?_ | skip)
        repeat' (first | exact DLes.nil | with_reducible exact DLe.refl _ | exact DLe.any _ | with_reducible apply DLes.cons | with_reducible apply dle_agg | exact DLe.refl _ | exact dle_int (by omega) | exact dle_nil rfl | exact DLe.own _ _)
      · repeat' ((conv => whnf); first | exact trivial | with_reducible apply And.intro | with_reducible apply endsO_ret | with_reducible apply endsO_norm | exact DLes.nil | with_reducible exact DLe.refl _ | exact DLe.any _ | with_reducible apply DLes.cons | with_reducible exact rle_refl | exact rle_bool rfl | exact rle_int rfl | exact rle_nil rfl | exact rle_sl0 rfl)
        all_goals (conv => whnf)
        rw [hy1, if_neg (by omega), if_neg (by omega), if_neg (by omega), if_pos (by omega)]
        simp only [anyC, allC, notC, Cond.row_mk, List.map_cons, List.map_nil, htl]
        (first | refine rle_agg ?_ | refine dle_agg ?_ | skip)
        repeat' (first | exact DLes.nil | with_reducible exact DLe.refl _ | exact DLe.any _ | with_reducible apply DLes.cons | with_reducible apply dle_agg | exact DLe.refl _ | exact dle_int (by omega) | exact dle_nil rfl | exact DLe.own _ _)
    | some n =>
      have hlt := (List.getElem?_eq_some_iff.1 hx).1
      rw [els_at hx] at hv
      have g6 := g5 n (List.mem_of_getElem? hx)
      repeat' (
        (conv => whnf)
        first
          | ((with_reducible apply DrawI.at 103 idl8_28); (focus exact rfl); (focus kernel_rfl))
          | ((with_reducible apply DrawI.at 114 idl8_30); (focus exact rfl); (focus kernel_rfl))
          | ((with_reducible apply DrawI.at 137 idl8_38); (focus exact rfl); (focus kernel_rfl))
          | with_reducible apply ExE.go
          | ((with_reducible apply EqF.mk); (focus exact rfl))
          | with_reducible apply AndI.mk
          | with_reducible exact trivial
          | ((try ((first | with_reducible apply NumE.go | with_reducible apply IdxE.go | with_reducible apply TextE.go | with_reducible apply LookE.go | with_reducible apply CallE.go); (conv => whnf))); (with_reducible apply SideD.mk); (focus ((first | (intro hc; have hc0 := hc; (try simp only [SPLT] at hc); (try refine And.intro (by first | exact hc0 | exact ⟨hc0, hc0⟩ | exact ⟨hc0, hc0, hc0⟩) ?_)) | skip); first | exact idx_nat (by assumption) | exact idx_some (by omega) (by assumption) | exact idx_eq (by assumption) (by omega) | ((try apply givesl); (focus (first | ((apply gives_go (ht)); (focus (first | exact DLes.refl _ | (repeat (first | exact DLes.nil | ((apply DLes.cons); (focus (first | exact DLe.refl _ | exact DLe.own _ _ | exact DLe.nil _ _ | exact DLe.any _))))))); (focus exact rfl); (all_goals (first | exact rfl | assumption | omega | (simp; omega) | (simp; done)))) | ((first | apply gives_go (within_sem n 1 50) | apply gives_go (isTag2_sem _ _) | apply gives_go (digits4_sem _ _ _) | apply gives_go (r4AllX_sem _) | apply gives_go (r4AnyX_sem _) | apply gives_go (r4NotX_sem _ _ _ _ _ _)); (focus (first | exact DLes.refl _ | (repeat (first | exact DLes.nil | ((apply DLes.cons); (focus (first | exact DLe.refl _ | exact DLe.own _ _ | exact DLe.nil _ _ | exact DLe.any _))))))); (focus exact rfl); (all_goals (first | exact rfl | assumption | omega | (simp; omega) | (simp; done)))))); (all_goals exact rfl)) | exact IntWalk.i64_in _ (by omega) | exact IntWalk.u8_in _ (by omega) | exact IntWalk.u64_in _ (by omega) | exact IntWalk.i32_in _ (by omega) | exact rfl | exact ⟨by omega, rfl⟩ | exact ⟨rfl, rfl⟩ | assumption | exact ⟨by omega, by omega⟩ | exact ⟨by omega, by simp; omega⟩ | omega | exact ⟨rfl, rfl, by simp only [List.length_map, List.length_append, List.length_cons, List.length_nil]; omega⟩ | exact ⟨rfl, rfl, by simp; omega⟩ | exact ⟨rfl, rfl, by omega⟩ | exact ⟨rfl, by simp; omega⟩ | exact id | (intro h; simp [h]; done) | ((repeat (first | exact trivial | exact rfl | apply And.intro)); done) | (simp; omega) | (refine ⟨?_, ?_, ?_⟩ <;> first | omega | (simp; done) | (simp; omega)) | exact hc0 | exact ⟨hc0, hc0⟩ | exact ⟨hc0, hc0, hc0⟩ | (simp only [Bool.and_eq_true] at hc0; simp [hc0]; done) | (simp_all; done))))
          | ((first | with_reducible apply DrawR.go0 | with_reducible apply KerB.mk); (focus kernel_rfl))
          | (first | with_reducible apply ends_ret | with_reducible apply ends_norm | with_reducible apply Halt'.mk)
          | ((with_reducible apply CondD.mk) <;> intro hb <;> (try simp only [SPLT] at hb) <;> (try first | contradiction | exact absurd hb (by assumption) | exact absurd (by assumption) hb | (exfalso; omega) | (exfalso; simp at hb; done))))
      all_goals (try exact (false : Bool))
      · rw [if_neg (by omega)] at hv
        refine loop_go (M := fun t => mem t [6, 8, 5000028, 5000030, 5000038]) hT hM (fun j : Nat => [(11, .int .i64 j)]) (fun j => j ≤ i ∧ (els.take j).contains n = false) (fun j => i - j) (0) ?_ ?_ ?_
        · (conv => whnf)
          refine ⟨?_, by rfl⟩
          repeat' ((conv => whnf); first | exact DLes.nil | with_reducible exact DLe.refl _ | exact DLe.any _ | with_reducible apply DLes.cons | exact DLe.refl _ | exact dle_int (by omega) | exact dle_nil rfl | exact DLe.own _ _)
        · exact ⟨Nat.zero_le _, rfl⟩
        · rintro j ⟨hj, hc⟩
          by_cases hji : j = i
          · subst hji
            rw [hc, if_neg (by simp)] at hv
            have hd := digs_len n (by omega) (by omega)
            have hg := digits4_sem n (by omega) (by omega)
            repeat' (
              (conv => whnf)
              first
                | ((with_reducible apply DrawI.at 103 idl8_28); (focus exact rfl); (focus kernel_rfl))
                | ((with_reducible apply DrawI.at 114 idl8_30); (focus exact rfl); (focus kernel_rfl))
                | ((with_reducible apply DrawI.at 137 idl8_38); (focus exact rfl); (focus kernel_rfl))
                | with_reducible apply ExE.go
                | ((with_reducible apply EqF.mk); (focus exact rfl))
                | with_reducible apply AndI.mk
                | with_reducible exact trivial
                | ((try ((first | with_reducible apply NumE.go | with_reducible apply IdxE.go | with_reducible apply TextE.go | with_reducible apply LookE.go | with_reducible apply CallE.go); (conv => whnf))); (with_reducible apply SideD.mk); (focus ((first | (intro hc; have hc0 := hc; (try simp only [SPLT] at hc); (try refine And.intro (by first | exact hc0 | exact ⟨hc0, hc0⟩ | exact ⟨hc0, hc0, hc0⟩) ?_)) | skip); first | exact idx_nat (by assumption) | exact idx_some (by omega) (by assumption) | exact idx_eq (by assumption) (by omega) | ((try apply givesl); (focus (first | ((apply gives_go (ht)); (focus (first | exact DLes.refl _ | (repeat (first | exact DLes.nil | ((apply DLes.cons); (focus (first | exact DLe.refl _ | exact DLe.own _ _ | exact DLe.nil _ _ | exact DLe.any _))))))); (focus exact rfl); (all_goals (first | exact rfl | assumption | omega | (simp; omega) | (simp; done)))) | ((apply gives_go (hg)); (focus (first | exact DLes.refl _ | (repeat (first | exact DLes.nil | ((apply DLes.cons); (focus (first | exact DLe.refl _ | exact DLe.own _ _ | exact DLe.nil _ _ | exact DLe.any _))))))); (focus exact rfl); (all_goals (first | exact rfl | assumption | omega | (simp; omega) | (simp; done)))) | ((first | apply gives_go (isTag2_sem _ _) | apply gives_go (within_sem _ _ _) | apply gives_go (digits4_sem _ _ _) | apply gives_go (r4AllX_sem _) | apply gives_go (r4AnyX_sem _) | apply gives_go (r4NotX_sem _ _ _ _ _ _)); (focus (first | exact DLes.refl _ | (repeat (first | exact DLes.nil | ((apply DLes.cons); (focus (first | exact DLe.refl _ | exact DLe.own _ _ | exact DLe.nil _ _ | exact DLe.any _))))))); (focus exact rfl); (all_goals (first | exact rfl | assumption | omega | (simp; omega) | (simp; done)))))); (all_goals exact rfl)) | exact IntWalk.i64_in _ (by omega) | exact IntWalk.u8_in _ (by omega) | exact IntWalk.u64_in _ (by omega) | exact IntWalk.i32_in _ (by omega) | exact rfl | exact ⟨by omega, rfl⟩ | exact ⟨rfl, rfl⟩ | assumption | exact ⟨by omega, by omega⟩ | exact ⟨by omega, by simp; omega⟩ | omega | exact ⟨rfl, rfl, by simp only [List.length_map, List.length_append, List.length_cons, List.length_nil]; omega⟩ | exact ⟨rfl, rfl, by simp; omega⟩ | exact ⟨rfl, rfl, by omega⟩ | exact ⟨rfl, by simp; omega⟩ | exact id | (intro h; simp [h]; done) | ((repeat (first | exact trivial | exact rfl | apply And.intro)); done) | (simp; omega) | (refine ⟨?_, ?_, ?_⟩ <;> first | omega | (simp; done) | (simp; omega)) | exact hc0 | exact ⟨hc0, hc0⟩ | exact ⟨hc0, hc0, hc0⟩ | (simp only [Bool.and_eq_true] at hc0; simp [hc0]; done) | (simp_all; done))))
                | ((first | with_reducible apply DrawR.go0 | with_reducible apply KerB.mk); (focus kernel_rfl))
                | (first | with_reducible apply ends_ret | with_reducible apply ends_norm | with_reducible apply Halt'.mk)
                | ((with_reducible apply CondD.mk) <;> intro hb <;> (try simp only [SPLT] at hb) <;> (try first | contradiction | exact absurd hb (by assumption) | exact absurd (by assumption) hb | (exfalso; omega) | (exfalso; simp at hb; done))))
            all_goals (try exact (false : Bool))
            refine ⟨j + 1, ⟨by omega, hv⟩, by omega, ?_⟩
            (conv => whnf)
            refine ⟨?_, by rfl⟩
            repeat' ((conv => whnf); first | exact DLes.nil | with_reducible exact DLe.refl _ | exact DLe.any _ | (exact dle_rows (by rw [take_at hx, List.map_append, List.map_append]; exact .app (.refl _) (.cons (there_le _) (.refl _)))) | with_reducible apply DLes.cons | exact DLe.refl _ | exact dle_int (by omega) | exact dle_nil rfl | exact DLe.own _ _)
          · have hy : els[j]? = some els[j] := by simp
            generalize els[j] = m at hy
            repeat' (
              (conv => whnf)
              first
                | ((with_reducible apply DrawI.at 103 idl8_28); (focus exact rfl); (focus kernel_rfl))
                | ((with_reducible apply DrawI.at 114 idl8_30); (focus exact rfl); (focus kernel_rfl))
                | ((with_reducible apply DrawI.at 137 idl8_38); (focus exact rfl); (focus kernel_rfl))
                | with_reducible apply ExE.go
                | ((with_reducible apply EqF.mk); (focus exact rfl))
                | with_reducible apply AndI.mk
                | with_reducible exact trivial
                | ((try ((first | with_reducible apply NumE.go | with_reducible apply IdxE.go | with_reducible apply TextE.go | with_reducible apply LookE.go | with_reducible apply CallE.go); (conv => whnf))); (with_reducible apply SideD.mk); (focus ((first | (intro hc; have hc0 := hc; (try simp only [SPLT] at hc); (try refine And.intro (by first | exact hc0 | exact ⟨hc0, hc0⟩ | exact ⟨hc0, hc0, hc0⟩) ?_)) | skip); first | exact idx_nat (by assumption) | exact idx_some (by omega) (by assumption) | exact idx_eq (by assumption) (by omega) | ((try apply givesl); (focus (first | ((apply gives_go (ht)); (focus (first | exact DLes.refl _ | (repeat (first | exact DLes.nil | ((apply DLes.cons); (focus (first | exact DLe.refl _ | exact DLe.own _ _ | exact DLe.nil _ _ | exact DLe.any _))))))); (focus exact rfl); (all_goals (first | exact rfl | assumption | omega | (simp; omega) | (simp; done)))) | ((first | apply gives_go (isTag2_sem _ _) | apply gives_go (within_sem _ _ _) | apply gives_go (digits4_sem _ _ _) | apply gives_go (r4AllX_sem _) | apply gives_go (r4AnyX_sem _) | apply gives_go (r4NotX_sem _ _ _ _ _ _)); (focus (first | exact DLes.refl _ | (repeat (first | exact DLes.nil | ((apply DLes.cons); (focus (first | exact DLe.refl _ | exact DLe.own _ _ | exact DLe.nil _ _ | exact DLe.any _))))))); (focus exact rfl); (all_goals (first | exact rfl | assumption | omega | (simp; omega) | (simp; done)))))); (all_goals exact rfl)) | exact IntWalk.i64_in _ (by omega) | exact IntWalk.u8_in _ (by omega) | exact IntWalk.u64_in _ (by omega) | exact IntWalk.i32_in _ (by omega) | exact rfl | exact ⟨by omega, rfl⟩ | exact ⟨rfl, rfl⟩ | assumption | exact ⟨by omega, by omega⟩ | exact ⟨by omega, by simp; omega⟩ | omega | exact ⟨rfl, rfl, by simp only [List.length_map, List.length_append, List.length_cons, List.length_nil]; omega⟩ | exact ⟨rfl, rfl, by simp; omega⟩ | exact ⟨rfl, rfl, by omega⟩ | exact ⟨rfl, by simp; omega⟩ | exact id | (intro h; simp [h]; done) | ((repeat (first | exact trivial | exact rfl | apply And.intro)); done) | (simp; omega) | (refine ⟨?_, ?_, ?_⟩ <;> first | omega | (simp; done) | (simp; omega)) | exact hc0 | exact ⟨hc0, hc0⟩ | exact ⟨hc0, hc0, hc0⟩ | (simp only [Bool.and_eq_true] at hc0; simp [hc0]; done) | (simp_all; done))))
                | ((first | with_reducible apply DrawR.go0 | with_reducible apply KerB.mk); (focus kernel_rfl))
                | (first | with_reducible apply ends_ret | with_reducible apply ends_norm | with_reducible apply Halt'.mk)
                | ((with_reducible apply CondD.mk) <;> intro hb <;> (try simp only [SPLT] at hb) <;> (try first | contradiction | exact absurd hb (by assumption) | exact absurd (by assumption) hb | (exfalso; omega) | (exfalso; simp at hb; done))))
            all_goals (try exact (false : Bool))
            · have hcc : (els.take i).contains n = true := by
                rw [List.contains_iff_mem]
                have hmn : m = n := by omega
                subst hmn
                exact List.mem_take_iff_getElem.2 ⟨j, by omega, (List.getElem?_eq_some_iff.1 hy).2⟩
              rw [if_pos hcc] at hv
              exact absurd hv (by decide)
            · refine ⟨j + 1, ⟨by omega, ?_⟩, by omega, ?_⟩
              · rw [take_at hy]
                simp_all
                omega
              · (conv => whnf)
                refine ⟨?_, by rfl⟩
                repeat' ((conv => whnf); first | exact DLes.nil | with_reducible exact DLe.refl _ | exact DLe.any _ | with_reducible apply DLes.cons | exact DLe.refl _ | exact dle_int (by omega) | exact dle_nil rfl | exact DLe.own _ _)
end Go.Proofs.YtbphihljkbdfpaaGreatDoor
