/- Notes: the reference's walk, pairs  (by named ideals). -/
import Derived.Test.YtbphihljkbdfpaaGreatDoorZ16
namespace Go.Proofs.YtbphihljkbdfpaaGreatDoor
set_option linter.unusedSimpArgs false
set_option linter.unusedVariables false
open Go.RowKit
set_option maxRecDepth 100000
set_option maxHeartbeats 6000000

theorem ofNote4_c (tag : Str) (c : UInt8) (els : List Int) (hs : tag.length ≤ 9223372036854775807) (h0 : noteErr tag c els = 0) (h69 : c.toNat = 69) : Sem Tryz.prog 8 [.str tag, .int .u8 c.toNat, .sl 0 1 (els.map numR)] (.tup [.agg (noteC c (els.map (atC tag))).row, .int .i64 0]) := by
  have ht := isTag2_sem tag hs
  obtain ⟨g1, g2, g3, g4, g5⟩ := note_ok h0
  have hlen := tag_len g1
  rw [g1] at ht
  have hc5 : (c.toNat : Int) = 80 ∨ (c.toNat : Int) = 82 ∨ (c.toNat : Int) = 69 ∨ (c.toNat : Int) = 67 ∨ (c.toNat : Int) = 76 := by
    unfold isNote at g2
    simp at g2
    omega
  have he2 : elsErr [] els = 0 := by
    rw [noteErr, if_neg (by simp_all), if_neg (by simp_all), if_neg (by omega), if_neg (by omega)] at h0
    exact h0
  clear h0 g1 g2
  obtain ⟨cc, hcc⟩ : ∃ cc, cc = noteC c (els.map (atC tag)) := ⟨_, rfl⟩
  rw [← hcc]
  obtain ⟨k, ks, p, vs, low, high⟩ := cc
  have hy1 : [D.int .i64 k, D.sl 0 6 (ks.map Cond.row), D.str p, D.sl 0 1 (vs.map fun s => [D.str s]), D.int .i64 low, D.int .i64 high] = (noteC c (els.map (atC tag))).row := by rw [← hcc, Cond.row_mk]
  rw [Cond.row_mk]
  clear hcc
  refine sem_intro (M := fun t => mem t [6, 8, 5000028, 5000030, 5000038]) hT hM Tryz.func8 inferInstance rfl rfl rfl rfl rfl rfl ?_
  repeat' (
    (conv => whnf)
    first
      | ((with_reducible apply DrawI.at 103 idl8_28); (focus exact rfl); (focus kernel_rfl))
      | ((with_reducible apply DrawI.at 114 idl8_30); (focus exact rfl); (focus kernel_rfl))
      | ((with_reducible apply DrawI.at 137 idl8_38); (focus exact rfl); (focus kernel_rfl))
      | with_reducible apply ExE.go
      | ((with_reducible apply EqF.mk); (focus exact rfl))
      | with_reducible apply AndI.mk
      | with_reducible exact trivial
      | ((try ((first | with_reducible apply NumE.go | with_reducible apply IdxE.go | with_reducible apply TextE.go | with_reducible apply LookE.go | with_reducible apply CallE.go); (conv => whnf))); (with_reducible apply SideD.mk); (focus ((first | (intro hc; have hc0 := hc; (try simp only [SPLT] at hc); (try refine And.intro (by first | exact hc0 | exact ⟨hc0, hc0⟩ | exact ⟨hc0, hc0, hc0⟩) ?_)) | skip); first | exact idx_nat (by assumption) | exact idx_some (by omega) (by assumption) | exact idx_eq (by assumption) (by omega) | ((try apply givesl); (focus (first | ((apply gives_go (ht)); (focus (first | exact DLes.refl _ | (repeat (first | exact DLes.nil | ((apply DLes.cons); (focus (first | exact DLe.refl _ | exact DLe.own _ _ | exact DLe.nil _ _ | exact DLe.any _))))))); (focus exact rfl); (all_goals (first | exact rfl | assumption | omega | (simp; omega) | (simp; done)))) | ((first | apply gives_go (isTag2_sem _ _) | apply gives_go (within_sem _ _ _) | apply gives_go (digits4_sem _ _ _) | apply gives_go (r4AllX_sem _) | apply gives_go (r4AnyX_sem _) | apply gives_go (r4NotX_sem _ _ _ _ _ _)); (focus (first | exact DLes.refl _ | (repeat (first | exact DLes.nil | ((apply DLes.cons); (focus (first | exact DLe.refl _ | exact DLe.own _ _ | exact DLe.nil _ _ | exact DLe.any _))))))); (focus exact rfl); (all_goals (first | exact rfl | assumption | omega | (simp; omega) | (simp; done)))))); (all_goals exact rfl)) | exact IntWalk.i64_in _ (by omega) | exact IntWalk.u8_in _ (by omega) | exact IntWalk.u64_in _ (by omega) | exact IntWalk.i32_in _ (by omega) | exact rfl | exact ⟨by omega, rfl⟩ | exact ⟨rfl, rfl⟩ | assumption | exact ⟨by omega, by omega⟩ | exact ⟨by omega, by simp; omega⟩ | omega | exact ⟨rfl, rfl, by simp only [List.length_map, List.length_append, List.length_cons, List.length_nil]; omega⟩ | exact ⟨rfl, rfl, by simp; omega⟩ | exact ⟨rfl, rfl, by omega⟩ | exact ⟨rfl, by simp; omega⟩ | exact id | (intro h; simp [h]; done) | ((repeat (first | exact trivial | exact rfl | apply And.intro)); done) | (simp; omega) | (refine ⟨?_, ?_, ?_⟩ <;> first | omega | (simp; done) | (simp; omega)) | exact hc0 | exact ⟨hc0, hc0⟩ | exact ⟨hc0, hc0, hc0⟩ | (simp only [Bool.and_eq_true] at hc0; simp [hc0]; done) | (simp_all; done))))
      | ((first | with_reducible apply DrawR.go0 | with_reducible apply KerB.mk); (focus kernel_rfl))
      | (first | with_reducible apply ends_ret | with_reducible apply ends_norm | with_reducible apply Halt'.mk)
      | ((with_reducible apply CondD.mk) <;> intro hb <;> (try simp only [SPLT] at hb) <;> (try first | contradiction | exact absurd hb (by assumption) | exact absurd (by assumption) hb | (exfalso; omega) | (exfalso; simp at hb; done))))
  all_goals (try exact (false : Bool))
  refine loop_go (M := fun t => mem t [6, 8, 5000028, 5000030, 5000038]) hT hM (fun i : Nat => [(9, .sl 2 6 (((els.take i).map (atC tag)).map Cond.row)), (10, .int .i64 i)]) (fun i => i ≤ els.length ∧ elsErr (els.take i) (els.drop i) = 0) (fun i => els.length - i) (0) ?_ ?_ ?_
  · (conv => whnf)
    refine ⟨?_, by rfl⟩
    repeat' ((conv => whnf); first | exact DLes.nil | with_reducible exact DLe.refl _ | exact DLe.any _ | with_reducible apply DLes.cons | exact DLe.refl _ | exact dle_int (by omega) | exact dle_nil rfl | exact DLe.own _ _)
  · exact ⟨by omega, he2⟩
  · rintro i ⟨hi, hv⟩
    clear he2
    cases hx : els[i]? with
    | none => as_aux_lemma =>
      have hn := List.getElem?_eq_none_iff.1 hx
      rw [List.take_of_length_le hn]
      have hll : (els.map (atC tag)).length = els.length := List.length_map _
      generalize els.map (atC tag) = l at hy1 hll
      obtain ⟨a, ha⟩ : ∃ a, l[0]? = some a := ⟨l[0]'(by omega), by simp⟩
      have hah : l.headD noneC = a := by rw [← List.head?_eq_getElem?] at ha; simp [List.headD_eq_head?_getD, ha]
      rw [noteC, hah] at hy1
      clear hah
      obtain ⟨k0, ks0, p0, vs0, lo0, hi0⟩ := a
      have htl : l.tail.map Cond.row = List.drop (Int.toNat 1) (List.take ((l.map Cond.row).length : Int).toNat (l.map Cond.row)) := by rw [part_eq]; simp
      repeat' (
        (conv => whnf)
        first
          | ((with_reducible apply DrawI.at 103 idl8_28); (focus exact rfl); (focus kernel_rfl))
          | ((with_reducible apply DrawI.at 114 idl8_30); (focus exact rfl); (focus kernel_rfl))
          | ((with_reducible apply DrawI.at 137 idl8_38); (focus exact rfl); (focus kernel_rfl))
          | with_reducible apply ExE.go
          | ((with_reducible apply EqF.mk); (focus exact rfl))
          | with_reducible apply AndI.mk
          | with_reducible exact trivial
          | ((try ((first | with_reducible apply NumE.go | with_reducible apply IdxE.go | with_reducible apply TextE.go | with_reducible apply LookE.go | with_reducible apply CallE.go); (conv => whnf))); (with_reducible apply SideD.mk); (focus ((first | (intro hc; have hc0 := hc; (try simp only [SPLT] at hc); (try refine And.intro (by first | exact hc0 | exact ⟨hc0, hc0⟩ | exact ⟨hc0, hc0, hc0⟩) ?_)) | skip); first | (exact idx_row ha rfl) | exact idx_nat (by assumption) | exact idx_some (by omega) (by assumption) | exact idx_eq (by assumption) (by omega) | ((try apply givesl); (focus (((first | apply gives_go (r4AllX_sem _) | apply gives_go (r4AnyX_sem _) | apply gives_go (r4NotX_sem _ _ _ _ _ _) | apply gives_go (isTag2_sem _ _) | apply gives_go (within_sem _ _ _) | apply gives_go (digits4_sem _ _ _)); (focus (first | exact DLes.refl _ | (repeat (first | exact DLes.nil | ((apply DLes.cons); (focus (first | exact DLe.refl _ | exact DLe.own _ _ | exact DLe.nil _ _ | exact DLe.any _))))))); (focus exact rfl); (all_goals (first | exact rfl | assumption | omega | (simp; omega) | (simp; done)))))); (all_goals exact rfl)) | exact IntWalk.i64_in _ (by omega) | exact IntWalk.u8_in _ (by omega) | exact IntWalk.u64_in _ (by omega) | exact IntWalk.i32_in _ (by omega) | exact rfl | exact ⟨by omega, rfl⟩ | exact ⟨rfl, rfl⟩ | assumption | exact ⟨by omega, by omega⟩ | exact ⟨by omega, by simp; omega⟩ | omega | exact ⟨rfl, rfl, by simp only [List.length_map, List.length_append, List.length_cons, List.length_nil]; omega⟩ | exact ⟨rfl, rfl, by simp; omega⟩ | exact ⟨rfl, rfl, by omega⟩ | exact ⟨rfl, by simp; omega⟩ | exact id | (intro h; simp [h]; done) | ((repeat (first | exact trivial | exact rfl | apply And.intro)); done) | (simp; omega) | (refine ⟨?_, ?_, ?_⟩ <;> first | omega | (simp; done) | (simp; omega)) | exact hc0 | exact ⟨hc0, hc0⟩ | exact ⟨hc0, hc0, hc0⟩ | (simp only [Bool.and_eq_true] at hc0; simp [hc0]; done) | (simp_all; done))))
          | ((first | with_reducible apply DrawR.go0 | with_reducible apply KerB.mk); (focus kernel_rfl))
          | (first | with_reducible apply ends_ret | with_reducible apply ends_norm | with_reducible apply Halt'.mk)
          | ((with_reducible apply CondD.mk) <;> intro hb <;> (try simp only [SPLT] at hb) <;> (try first | contradiction | exact absurd hb (by assumption) | exact absurd (by assumption) hb | (exfalso; omega) | (exfalso; simp at hb; done))))
      all_goals (try exact (false : Bool))
      · have hE : c.toNat = 69 := h69
        rw [if_neg (by omega), if_pos hE] at hy1
        clear ha htl
        refine ht_frz [9] ?_
        conv => whnf
        refine loop_go (M := fun t => mem t [6, 8, 5000028, 5000030, 5000038]) hT hM (fun i : Nat => [(12, .sl 2 6 ((pairsC l i).map Cond.row)), (13, .int .i64 i)]) (fun i => i ≤ l.length) (fun i => l.length - i) (0) ?_ ?_ ?_
        · (conv => whnf)
          refine ⟨?_, by rfl⟩
          repeat' ((conv => whnf); first | exact DLes.nil | with_reducible exact DLe.refl _ | exact DLe.any _ | with_reducible apply DLes.cons | exact DLe.refl _ | exact dle_int (by omega) | exact dle_nil rfl | exact DLe.own _ _)
        · exact Nat.zero_le _
        · rintro i1 hi1
          cases hx1 : l[i1]? with
          | none =>
            have hn1 := List.getElem?_eq_none_iff.1 hx1
            obtain rfl : i1 = l.length := by omega
            repeat' (
              (conv => whnf)
              first
                | ((with_reducible apply DrawI.at 103 idl8_28); (focus exact rfl); (focus kernel_rfl))
                | ((with_reducible apply DrawI.at 114 idl8_30); (focus exact rfl); (focus kernel_rfl))
                | ((with_reducible apply DrawI.at 137 idl8_38); (focus exact rfl); (focus kernel_rfl))
                | with_reducible apply ExE.go
                | ((with_reducible apply EqF.mk); (focus exact rfl))
                | with_reducible apply AndI.mk
                | with_reducible exact trivial
                | ((try ((first | with_reducible apply NumE.go | with_reducible apply IdxE.go | with_reducible apply TextE.go | with_reducible apply LookE.go | with_reducible apply CallE.go); (conv => whnf))); (with_reducible apply SideD.mk); (focus ((first | (intro hc; have hc0 := hc; (try simp only [SPLT] at hc); (try refine And.intro (by first | exact hc0 | exact ⟨hc0, hc0⟩ | exact ⟨hc0, hc0, hc0⟩) ?_)) | skip); first | exact idx_nat (by assumption) | exact idx_some (by omega) (by assumption) | exact idx_eq (by assumption) (by omega) | ((try apply givesl); (focus (((first | apply gives_go (r4AllX_sem _) | apply gives_go (isTag2_sem _ _) | apply gives_go (within_sem _ _ _) | apply gives_go (digits4_sem _ _ _) | apply gives_go (r4AnyX_sem _) | apply gives_go (r4NotX_sem _ _ _ _ _ _)); (focus (first | exact DLes.refl _ | (repeat (first | exact DLes.nil | ((apply DLes.cons); (focus (first | exact DLe.refl _ | exact DLe.own _ _ | exact DLe.nil _ _ | exact DLe.any _))))))); (focus exact rfl); (all_goals (first | exact rfl | assumption | omega | (simp; omega) | (simp; done)))))); (all_goals exact rfl)) | exact IntWalk.i64_in _ (by omega) | exact IntWalk.u8_in _ (by omega) | exact IntWalk.u64_in _ (by omega) | exact IntWalk.i32_in _ (by omega) | exact rfl | exact ⟨by omega, rfl⟩ | exact ⟨rfl, rfl⟩ | assumption | exact ⟨by omega, by omega⟩ | exact ⟨by omega, by simp; omega⟩ | omega | exact ⟨rfl, rfl, by simp only [List.length_map, List.length_append, List.length_cons, List.length_nil]; omega⟩ | exact ⟨rfl, rfl, by simp; omega⟩ | exact ⟨rfl, rfl, by omega⟩ | exact ⟨rfl, by simp; omega⟩ | exact id | (intro h; simp [h]; done) | ((repeat (first | exact trivial | exact rfl | apply And.intro)); done) | (simp; omega) | (refine ⟨?_, ?_, ?_⟩ <;> first | omega | (simp; done) | (simp; omega)) | exact hc0 | exact ⟨hc0, hc0⟩ | exact ⟨hc0, hc0, hc0⟩ | (simp only [Bool.and_eq_true] at hc0; simp [hc0]; done) | (simp_all; done))))
                | ((first | with_reducible apply DrawR.go0 | with_reducible apply KerB.mk); (focus kernel_rfl))
                | (first | with_reducible apply ends_ret | with_reducible apply ends_norm | with_reducible apply Halt'.mk)
                | ((with_reducible apply CondD.mk) <;> intro hb <;> (try simp only [SPLT] at hb) <;> (try first | contradiction | exact absurd hb (by assumption) | exact absurd (by assumption) hb | (exfalso; omega) | (exfalso; simp at hb; done))))
            all_goals (try exact (false : Bool))
            repeat' ((conv => whnf); first | exact trivial | with_reducible apply And.intro | with_reducible apply endsO_ret | with_reducible apply endsO_norm | exact DLes.nil | with_reducible exact DLe.refl _ | exact DLe.any _ | with_reducible apply DLes.cons | with_reducible exact rle_refl | exact rle_bool rfl | exact rle_int rfl | exact rle_nil rfl | exact rle_sl0 rfl)
            all_goals (conv => whnf)
            · rw [hy1]
              simp only [allC, Cond.row_mk, List.map_nil]
              (first | refine rle_agg ?_ | refine dle_agg ?_ | skip)
              repeat' (first | exact DLes.nil | with_reducible exact DLe.refl _ | exact DLe.any _ | with_reducible apply DLes.cons | with_reducible apply dle_agg | exact DLe.refl _ | exact dle_int (by omega) | exact dle_nil rfl | exact DLe.own _ _)
          | some a => as_aux_lemma =>
            have hlt1 := (List.getElem?_eq_some_iff.1 hx1).1
            have hpl := pairs_len (l := l) (by omega) i1
            obtain ⟨k1, ks1, p1, vs1, lo1, hj1⟩ := a
            repeat' (
              (conv => whnf)
              first
                | ((with_reducible apply DrawI.at 103 idl8_28); (focus exact rfl); (focus kernel_rfl))
                | ((with_reducible apply DrawI.at 114 idl8_30); (focus exact rfl); (focus kernel_rfl))
                | ((with_reducible apply DrawI.at 137 idl8_38); (focus exact rfl); (focus kernel_rfl))
                | with_reducible apply ExE.go
                | ((with_reducible apply EqF.mk); (focus exact rfl))
                | with_reducible apply AndI.mk
                | with_reducible exact trivial
                | ((try ((first | with_reducible apply NumE.go | with_reducible apply IdxE.go | with_reducible apply TextE.go | with_reducible apply LookE.go | with_reducible apply CallE.go); (conv => whnf))); (with_reducible apply SideD.mk); (focus ((first | (intro hc; have hc0 := hc; (try simp only [SPLT] at hc); (try refine And.intro (by first | exact hc0 | exact ⟨hc0, hc0⟩ | exact ⟨hc0, hc0, hc0⟩) ?_)) | skip); first | exact idx_nat (by assumption) | exact idx_some (by omega) (by assumption) | exact idx_eq (by assumption) (by omega) | ((try apply givesl); (focus (((first | apply gives_go (r4AllX_sem _) | apply gives_go (isTag2_sem _ _) | apply gives_go (within_sem _ _ _) | apply gives_go (digits4_sem _ _ _) | apply gives_go (r4AnyX_sem _) | apply gives_go (r4NotX_sem _ _ _ _ _ _)); (focus (first | exact DLes.refl _ | (repeat (first | exact DLes.nil | ((apply DLes.cons); (focus (first | exact DLe.refl _ | exact DLe.own _ _ | exact DLe.nil _ _ | exact DLe.any _))))))); (focus exact rfl); (all_goals (first | exact rfl | assumption | omega | (simp; omega) | (simp; done)))))); (all_goals exact rfl)) | exact IntWalk.i64_in _ (by omega) | exact IntWalk.u8_in _ (by omega) | exact IntWalk.u64_in _ (by omega) | exact IntWalk.i32_in _ (by omega) | exact rfl | exact ⟨by omega, rfl⟩ | exact ⟨rfl, rfl⟩ | assumption | exact ⟨by omega, by omega⟩ | exact ⟨by omega, by simp; omega⟩ | omega | exact ⟨rfl, rfl, by simp only [List.length_map, List.length_append, List.length_cons, List.length_nil]; omega⟩ | exact ⟨rfl, rfl, by simp; omega⟩ | exact ⟨rfl, rfl, by omega⟩ | exact ⟨rfl, by simp; omega⟩ | exact id | (intro h; simp [h]; done) | ((repeat (first | exact trivial | exact rfl | apply And.intro)); done) | (simp; omega) | (refine ⟨?_, ?_, ?_⟩ <;> first | omega | (simp; done) | (simp; omega)) | exact hc0 | exact ⟨hc0, hc0⟩ | exact ⟨hc0, hc0, hc0⟩ | (simp only [Bool.and_eq_true] at hc0; simp [hc0]; done) | (simp_all; done))))
                | ((first | with_reducible apply DrawR.go0 | with_reducible apply KerB.mk); (focus kernel_rfl))
                | (first | with_reducible apply ends_ret | with_reducible apply ends_norm | with_reducible apply Halt'.mk)
                | ((with_reducible apply CondD.mk) <;> intro hb <;> (try simp only [SPLT] at hb) <;> (try first | contradiction | exact absurd hb (by assumption) | exact absurd (by assumption) hb | (exfalso; omega) | (exfalso; simp at hb; done))))
            all_goals (try exact (false : Bool))
            refine loop_go (M := fun t => mem t [6, 8, 5000028, 5000030, 5000038]) hT hM (fun j : Nat => [(12, .sl 2 6 ((pairsC l i1 ++ ((l.drop (i1 + 1)).take j).map fun b => notC (allC [.mk k1 ks1 p1 vs1 lo1 hj1, b])).map Cond.row)), (14, .int .i64 ((i1 : Int) + 1 + j))]) (fun j => j ≤ l.length - (i1 + 1)) (fun j => l.length - (i1 + 1) - j) (0) ?_ ?_ ?_
            · (conv => whnf)
              refine ⟨?_, by rfl⟩
              repeat' ((conv => whnf); first | exact DLes.nil | with_reducible exact DLe.refl _ | exact DLe.any _ | (exact dle_sl (by simp)) | with_reducible apply DLes.cons | exact DLe.refl _ | exact dle_int (by omega) | exact dle_nil rfl | exact DLe.own _ _)
            · exact Nat.zero_le _
            · rintro j hj
              cases hy : l[i1 + 1 + j]? with
              | none =>
                have hm := List.getElem?_eq_none_iff.1 hy
                repeat' (
                  (conv => whnf)
                  first
                    | ((with_reducible apply DrawI.at 103 idl8_28); (focus exact rfl); (focus kernel_rfl))
                    | ((with_reducible apply DrawI.at 114 idl8_30); (focus exact rfl); (focus kernel_rfl))
                    | ((with_reducible apply DrawI.at 137 idl8_38); (focus exact rfl); (focus kernel_rfl))
                    | with_reducible apply ExE.go
                    | ((with_reducible apply EqF.mk); (focus exact rfl))
                    | with_reducible apply AndI.mk
                    | with_reducible exact trivial
                    | ((try ((first | with_reducible apply NumE.go | with_reducible apply IdxE.go | with_reducible apply TextE.go | with_reducible apply LookE.go | with_reducible apply CallE.go); (conv => whnf))); (with_reducible apply SideD.mk); (focus ((first | (intro hc; have hc0 := hc; (try simp only [SPLT] at hc); (try refine And.intro (by first | exact hc0 | exact ⟨hc0, hc0⟩ | exact ⟨hc0, hc0, hc0⟩) ?_)) | skip); first | exact idx_nat (by assumption) | exact idx_some (by omega) (by assumption) | exact idx_eq (by assumption) (by omega) | ((try apply givesl); (focus (((first | apply gives_go (r4AllX_sem _) | apply gives_go (isTag2_sem _ _) | apply gives_go (within_sem _ _ _) | apply gives_go (digits4_sem _ _ _) | apply gives_go (r4AnyX_sem _) | apply gives_go (r4NotX_sem _ _ _ _ _ _)); (focus (first | exact DLes.refl _ | (repeat (first | exact DLes.nil | ((apply DLes.cons); (focus (first | exact DLe.refl _ | exact DLe.own _ _ | exact DLe.nil _ _ | exact DLe.any _))))))); (focus exact rfl); (all_goals (first | exact rfl | assumption | omega | (simp; omega) | (simp; done)))))); (all_goals exact rfl)) | exact IntWalk.i64_in _ (by omega) | exact IntWalk.u8_in _ (by omega) | exact IntWalk.u64_in _ (by omega) | exact IntWalk.i32_in _ (by omega) | exact rfl | exact ⟨by omega, rfl⟩ | exact ⟨rfl, rfl⟩ | assumption | exact ⟨by omega, by omega⟩ | exact ⟨by omega, by simp; omega⟩ | omega | exact ⟨rfl, rfl, by simp only [List.length_map, List.length_append, List.length_cons, List.length_nil]; omega⟩ | exact ⟨rfl, rfl, by simp; omega⟩ | exact ⟨rfl, rfl, by omega⟩ | exact ⟨rfl, by simp; omega⟩ | exact id | (intro h; simp [h]; done) | ((repeat (first | exact trivial | exact rfl | apply And.intro)); done) | (simp; omega) | (refine ⟨?_, ?_, ?_⟩ <;> first | omega | (simp; done) | (simp; omega)) | exact hc0 | exact ⟨hc0, hc0⟩ | exact ⟨hc0, hc0, hc0⟩ | (simp only [Bool.and_eq_true] at hc0; simp [hc0]; done) | (simp_all; done))))
                    | ((first | with_reducible apply DrawR.go0 | with_reducible apply KerB.mk); (focus kernel_rfl))
                    | (first | with_reducible apply ends_ret | with_reducible apply ends_norm | with_reducible apply Halt'.mk)
                    | ((with_reducible apply CondD.mk) <;> intro hb <;> (try simp only [SPLT] at hb) <;> (try first | contradiction | exact absurd hb (by assumption) | exact absurd (by assumption) hb | (exfalso; omega) | (exfalso; simp at hb; done))))
                all_goals (try exact (false : Bool))
                refine ⟨i1 + 1, by omega, by omega, ?_⟩
                (conv => whnf)
                refine ⟨?_, by rfl⟩
                repeat' ((conv => whnf); first | exact DLes.nil | with_reducible exact DLe.refl _ | exact DLe.any _ | (exact dle_sl (by rw [pairsC, hx1, List.take_of_length_le (by simp; omega)])) | with_reducible apply DLes.cons | exact DLe.refl _ | exact dle_int (by omega) | exact dle_nil rfl | exact DLe.own _ _)
              | some b => as_aux_lemma =>
                have hlt2 := (List.getElem?_eq_some_iff.1 hy).1
                have hy2' : (l.drop (i1 + 1))[j]? = some b := by rw [List.getElem?_drop]; exact hy
                obtain ⟨k2, ks2, p2, vs2, lo2, hj2⟩ := b
                repeat' (
                  (conv => whnf)
                  first
                    | ((with_reducible apply DrawI.at 103 idl8_28); (focus exact rfl); (focus kernel_rfl))
                    | ((with_reducible apply DrawI.at 114 idl8_30); (focus exact rfl); (focus kernel_rfl))
                    | ((with_reducible apply DrawI.at 137 idl8_38); (focus exact rfl); (focus kernel_rfl))
                    | with_reducible apply ExE.go
                    | ((with_reducible apply EqF.mk); (focus exact rfl))
                    | with_reducible apply AndI.mk
                    | with_reducible exact trivial
                    | ((try ((first | with_reducible apply NumE.go | with_reducible apply IdxE.go | with_reducible apply TextE.go | with_reducible apply LookE.go | with_reducible apply CallE.go); (conv => whnf))); (with_reducible apply SideD.mk); (focus ((first | (intro hc; have hc0 := hc; (try simp only [SPLT] at hc); (try refine And.intro (by first | exact hc0 | exact ⟨hc0, hc0⟩ | exact ⟨hc0, hc0, hc0⟩) ?_)) | skip); first | (exact idx_row hx1 rfl) | (exact idx_row hy (by omega)) | exact idx_nat (by assumption) | exact idx_some (by omega) (by assumption) | exact idx_eq (by assumption) (by omega) | ((try apply givesl); (focus (((first | apply gives_go (r4AllX_sem _) | apply gives_go (r4NotX_sem _ _ _ _ _ _) | apply gives_go (isTag2_sem _ _) | apply gives_go (within_sem _ _ _) | apply gives_go (digits4_sem _ _ _) | apply gives_go (r4AnyX_sem _)); (focus (first | exact DLes.refl _ | (repeat (first | exact DLes.nil | ((apply DLes.cons); (focus (first | exact DLe.refl _ | exact DLe.own _ _ | exact DLe.nil _ _ | exact DLe.any _))))))); (focus exact rfl); (all_goals (first | exact rfl | assumption | omega | (simp; omega) | (simp; done)))))); (all_goals exact rfl)) | exact IntWalk.i64_in _ (by omega) | exact IntWalk.u8_in _ (by omega) | exact IntWalk.u64_in _ (by omega) | exact IntWalk.i32_in _ (by omega) | exact rfl | exact ⟨by omega, rfl⟩ | exact ⟨rfl, rfl⟩ | assumption | exact ⟨by omega, by omega⟩ | exact ⟨by omega, by simp; omega⟩ | omega | exact ⟨rfl, rfl, by simp only [List.length_map, List.length_append, List.length_cons, List.length_nil]; omega⟩ | exact ⟨rfl, rfl, by simp; omega⟩ | exact ⟨rfl, rfl, by omega⟩ | exact ⟨rfl, by simp; omega⟩ | exact id | (intro h; simp [h]; done) | ((repeat (first | exact trivial | exact rfl | apply And.intro)); done) | (simp; omega) | (refine ⟨?_, ?_, ?_⟩ <;> first | omega | (simp; done) | (simp; omega)) | exact hc0 | exact ⟨hc0, hc0⟩ | exact ⟨hc0, hc0, hc0⟩ | (simp only [Bool.and_eq_true] at hc0; simp [hc0]; done) | (simp_all; done))))
                    | ((first | with_reducible apply DrawR.go0 | with_reducible apply KerB.mk); (focus kernel_rfl))
                    | (first | with_reducible apply ends_ret | with_reducible apply ends_norm | with_reducible apply Halt'.mk)
                    | ((with_reducible apply CondD.mk) <;> intro hb <;> (try simp only [SPLT] at hb) <;> (try first | contradiction | exact absurd hb (by assumption) | exact absurd (by assumption) hb | (exfalso; omega) | (exfalso; simp at hb; done))))
                all_goals (try exact (false : Bool))
                refine ⟨j + 1, by omega, by omega, ?_⟩
                (conv => whnf)
                refine ⟨?_, by rfl⟩
                repeat' ((conv => whnf); first | exact DLes.nil | with_reducible exact DLe.refl _ | exact DLe.any _ | (exact dle_sl (by simp only [take_at hy2', List.map_append, List.map_cons, List.map_nil, notC, allC, Cond.row_mk, List.append_assoc])) | with_reducible apply DLes.cons | exact DLe.refl _ | exact dle_int (by omega) | exact dle_nil rfl | exact DLe.own _ _)
    | some n => as_aux_lemma =>
      have hlt := (List.getElem?_eq_some_iff.1 hx).1
      rw [els_at hx] at hv
      have g6 := g5 n (List.mem_of_getElem? hx)
      repeat' (
        (conv => whnf)
        first
          | ((with_reducible apply DrawI.at 103 idl8_28); (focus exact rfl); (focus kernel_rfl))
          | ((with_reducible apply DrawI.at 114 idl8_30); (focus exact rfl); (focus kernel_rfl))
          | ((with_reducible apply DrawI.at 137 idl8_38); (focus exact rfl); (focus kernel_rfl))
          | with_reducible apply ExE.go
          | ((with_reducible apply EqF.mk); (focus exact rfl))
          | with_reducible apply AndI.mk
          | with_reducible exact trivial
          | ((try ((first | with_reducible apply NumE.go | with_reducible apply IdxE.go | with_reducible apply TextE.go | with_reducible apply LookE.go | with_reducible apply CallE.go); (conv => whnf))); (with_reducible apply SideD.mk); (focus ((first | (intro hc; have hc0 := hc; (try simp only [SPLT] at hc); (try refine And.intro (by first | exact hc0 | exact ⟨hc0, hc0⟩ | exact ⟨hc0, hc0, hc0⟩) ?_)) | skip); first | exact idx_nat (by assumption) | exact idx_some (by omega) (by assumption) | exact idx_eq (by assumption) (by omega) | ((try apply givesl); (focus (first | ((apply gives_go (ht)); (focus (first | exact DLes.refl _ | (repeat (first | exact DLes.nil | ((apply DLes.cons); (focus (first | exact DLe.refl _ | exact DLe.own _ _ | exact DLe.nil _ _ | exact DLe.any _))))))); (focus exact rfl); (all_goals (first | exact rfl | assumption | omega | (simp; omega) | (simp; done)))) | ((first | apply gives_go (within_sem n 1 50) | apply gives_go (isTag2_sem _ _) | apply gives_go (digits4_sem _ _ _) | apply gives_go (r4AllX_sem _) | apply gives_go (r4AnyX_sem _) | apply gives_go (r4NotX_sem _ _ _ _ _ _)); (focus (first | exact DLes.refl _ | (repeat (first | exact DLes.nil | ((apply DLes.cons); (focus (first | exact DLe.refl _ | exact DLe.own _ _ | exact DLe.nil _ _ | exact DLe.any _))))))); (focus exact rfl); (all_goals (first | exact rfl | assumption | omega | (simp; omega) | (simp; done)))))); (all_goals exact rfl)) | exact IntWalk.i64_in _ (by omega) | exact IntWalk.u8_in _ (by omega) | exact IntWalk.u64_in _ (by omega) | exact IntWalk.i32_in _ (by omega) | exact rfl | exact ⟨by omega, rfl⟩ | exact ⟨rfl, rfl⟩ | assumption | exact ⟨by omega, by omega⟩ | exact ⟨by omega, by simp; omega⟩ | omega | exact ⟨rfl, rfl, by simp only [List.length_map, List.length_append, List.length_cons, List.length_nil]; omega⟩ | exact ⟨rfl, rfl, by simp; omega⟩ | exact ⟨rfl, rfl, by omega⟩ | exact ⟨rfl, by simp; omega⟩ | exact id | (intro h; simp [h]; done) | ((repeat (first | exact trivial | exact rfl | apply And.intro)); done) | (simp; omega) | (refine ⟨?_, ?_, ?_⟩ <;> first | omega | (simp; done) | (simp; omega)) | exact hc0 | exact ⟨hc0, hc0⟩ | exact ⟨hc0, hc0, hc0⟩ | (simp only [Bool.and_eq_true] at hc0; simp [hc0]; done) | (simp_all; done))))
          | ((first | with_reducible apply DrawR.go0 | with_reducible apply KerB.mk); (focus kernel_rfl))
          | (first | with_reducible apply ends_ret | with_reducible apply ends_norm | with_reducible apply Halt'.mk)
          | ((with_reducible apply CondD.mk) <;> intro hb <;> (try simp only [SPLT] at hb) <;> (try first | contradiction | exact absurd hb (by assumption) | exact absurd (by assumption) hb | (exfalso; omega) | (exfalso; simp at hb; done))))
      all_goals (try exact (false : Bool))
      · rw [if_neg (by omega)] at hv
        refine loop_go (M := fun t => mem t [6, 8, 5000028, 5000030, 5000038]) hT hM (fun j : Nat => [(11, .int .i64 j)]) (fun j => j ≤ i ∧ (els.take j).contains n = false) (fun j => i - j) (0) ?_ ?_ ?_
        · (conv => whnf)
          refine ⟨?_, by rfl⟩
          repeat' ((conv => whnf); first | exact DLes.nil | with_reducible exact DLe.refl _ | exact DLe.any _ | with_reducible apply DLes.cons | exact DLe.refl _ | exact dle_int (by omega) | exact dle_nil rfl | exact DLe.own _ _)
        · exact ⟨Nat.zero_le _, rfl⟩
        · rintro j ⟨hj, hc⟩
          by_cases hji : j = i
          · subst hji
            rw [hc, if_neg (by simp)] at hv
            have hd := digs_len n (by omega) (by omega)
            have hg := digits4_sem n (by omega) (by omega)
            repeat' (
              (conv => whnf)
              first
                | ((with_reducible apply DrawI.at 103 idl8_28); (focus exact rfl); (focus kernel_rfl))
                | ((with_reducible apply DrawI.at 114 idl8_30); (focus exact rfl); (focus kernel_rfl))
                | ((with_reducible apply DrawI.at 137 idl8_38); (focus exact rfl); (focus kernel_rfl))
                | with_reducible apply ExE.go
                | ((with_reducible apply EqF.mk); (focus exact rfl))
                | with_reducible apply AndI.mk
                | with_reducible exact trivial
                | ((try ((first | with_reducible apply NumE.go | with_reducible apply IdxE.go | with_reducible apply TextE.go | with_reducible apply LookE.go | with_reducible apply CallE.go); (conv => whnf))); (with_reducible apply SideD.mk); (focus ((first | (intro hc; have hc0 := hc; (try simp only [SPLT] at hc); (try refine And.intro (by first | exact hc0 | exact ⟨hc0, hc0⟩ | exact ⟨hc0, hc0, hc0⟩) ?_)) | skip); first | exact idx_nat (by assumption) | exact idx_some (by omega) (by assumption) | exact idx_eq (by assumption) (by omega) | ((try apply givesl); (focus (first | ((apply gives_go (ht)); (focus (first | exact DLes.refl _ | (repeat (first | exact DLes.nil | ((apply DLes.cons); (focus (first | exact DLe.refl _ | exact DLe.own _ _ | exact DLe.nil _ _ | exact DLe.any _))))))); (focus exact rfl); (all_goals (first | exact rfl | assumption | omega | (simp; omega) | (simp; done)))) | ((apply gives_go (hg)); (focus (first | exact DLes.refl _ | (repeat (first | exact DLes.nil | ((apply DLes.cons); (focus (first | exact DLe.refl _ | exact DLe.own _ _ | exact DLe.nil _ _ | exact DLe.any _))))))); (focus exact rfl); (all_goals (first | exact rfl | assumption | omega | (simp; omega) | (simp; done)))) | ((first | apply gives_go (isTag2_sem _ _) | apply gives_go (within_sem _ _ _) | apply gives_go (digits4_sem _ _ _) | apply gives_go (r4AllX_sem _) | apply gives_go (r4AnyX_sem _) | apply gives_go (r4NotX_sem _ _ _ _ _ _)); (focus (first | exact DLes.refl _ | (repeat (first | exact DLes.nil | ((apply DLes.cons); (focus (first | exact DLe.refl _ | exact DLe.own _ _ | exact DLe.nil _ _ | exact DLe.any _))))))); (focus exact rfl); (all_goals (first | exact rfl | assumption | omega | (simp; omega) | (simp; done)))))); (all_goals exact rfl)) | exact IntWalk.i64_in _ (by omega) | exact IntWalk.u8_in _ (by omega) | exact IntWalk.u64_in _ (by omega) | exact IntWalk.i32_in _ (by omega) | exact rfl | exact ⟨by omega, rfl⟩ | exact ⟨rfl, rfl⟩ | assumption | exact ⟨by omega, by omega⟩ | exact ⟨by omega, by simp; omega⟩ | omega | exact ⟨rfl, rfl, by simp only [List.length_map, List.length_append, List.length_cons, List.length_nil]; omega⟩ | exact ⟨rfl, rfl, by simp; omega⟩ | exact ⟨rfl, rfl, by omega⟩ | exact ⟨rfl, by simp; omega⟩ | exact id | (intro h; simp [h]; done) | ((repeat (first | exact trivial | exact rfl | apply And.intro)); done) | (simp; omega) | (refine ⟨?_, ?_, ?_⟩ <;> first | omega | (simp; done) | (simp; omega)) | exact hc0 | exact ⟨hc0, hc0⟩ | exact ⟨hc0, hc0, hc0⟩ | (simp only [Bool.and_eq_true] at hc0; simp [hc0]; done) | (simp_all; done))))
                | ((first | with_reducible apply DrawR.go0 | with_reducible apply KerB.mk); (focus kernel_rfl))
                | (first | with_reducible apply ends_ret | with_reducible apply ends_norm | with_reducible apply Halt'.mk)
                | ((with_reducible apply CondD.mk) <;> intro hb <;> (try simp only [SPLT] at hb) <;> (try first | contradiction | exact absurd hb (by assumption) | exact absurd (by assumption) hb | (exfalso; omega) | (exfalso; simp at hb; done))))
            all_goals (try exact (false : Bool))
            refine ⟨j + 1, ⟨by omega, hv⟩, by omega, ?_⟩
            (conv => whnf)
            refine ⟨?_, by rfl⟩
            repeat' ((conv => whnf); first | exact DLes.nil | with_reducible exact DLe.refl _ | exact DLe.any _ | (exact dle_rows (by rw [take_at hx, List.map_append, List.map_append]; exact .app (.refl _) (.cons (there_le _) (.refl _)))) | with_reducible apply DLes.cons | exact DLe.refl _ | exact dle_int (by omega) | exact dle_nil rfl | exact DLe.own _ _)
          · have hy : els[j]? = some els[j] := by simp
            generalize els[j] = m at hy
            repeat' (
              (conv => whnf)
              first
                | ((with_reducible apply DrawI.at 103 idl8_28); (focus exact rfl); (focus kernel_rfl))
                | ((with_reducible apply DrawI.at 114 idl8_30); (focus exact rfl); (focus kernel_rfl))
                | ((with_reducible apply DrawI.at 137 idl8_38); (focus exact rfl); (focus kernel_rfl))
                | with_reducible apply ExE.go
                | ((with_reducible apply EqF.mk); (focus exact rfl))
                | with_reducible apply AndI.mk
                | with_reducible exact trivial
                | ((try ((first | with_reducible apply NumE.go | with_reducible apply IdxE.go | with_reducible apply TextE.go | with_reducible apply LookE.go | with_reducible apply CallE.go); (conv => whnf))); (with_reducible apply SideD.mk); (focus ((first | (intro hc; have hc0 := hc; (try simp only [SPLT] at hc); (try refine And.intro (by first | exact hc0 | exact ⟨hc0, hc0⟩ | exact ⟨hc0, hc0, hc0⟩) ?_)) | skip); first | exact idx_nat (by assumption) | exact idx_some (by omega) (by assumption) | exact idx_eq (by assumption) (by omega) | ((try apply givesl); (focus (first | ((apply gives_go (ht)); (focus (first | exact DLes.refl _ | (repeat (first | exact DLes.nil | ((apply DLes.cons); (focus (first | exact DLe.refl _ | exact DLe.own _ _ | exact DLe.nil _ _ | exact DLe.any _))))))); (focus exact rfl); (all_goals (first | exact rfl | assumption | omega | (simp; omega) | (simp; done)))) | ((first | apply gives_go (isTag2_sem _ _) | apply gives_go (within_sem _ _ _) | apply gives_go (digits4_sem _ _ _) | apply gives_go (r4AllX_sem _) | apply gives_go (r4AnyX_sem _) | apply gives_go (r4NotX_sem _ _ _ _ _ _)); (focus (first | exact DLes.refl _ | (repeat (first | exact DLes.nil | ((apply DLes.cons); (focus (first | exact DLe.refl _ | exact DLe.own _ _ | exact DLe.nil _ _ | exact DLe.any _))))))); (focus exact rfl); (all_goals (first | exact rfl | assumption | omega | (simp; omega) | (simp; done)))))); (all_goals exact rfl)) | exact IntWalk.i64_in _ (by omega) | exact IntWalk.u8_in _ (by omega) | exact IntWalk.u64_in _ (by omega) | exact IntWalk.i32_in _ (by omega) | exact rfl | exact ⟨by omega, rfl⟩ | exact ⟨rfl, rfl⟩ | assumption | exact ⟨by omega, by omega⟩ | exact ⟨by omega, by simp; omega⟩ | omega | exact ⟨rfl, rfl, by simp only [List.length_map, List.length_append, List.length_cons, List.length_nil]; omega⟩ | exact ⟨rfl, rfl, by simp; omega⟩ | exact ⟨rfl, rfl, by omega⟩ | exact ⟨rfl, by simp; omega⟩ | exact id | (intro h; simp [h]; done) | ((repeat (first | exact trivial | exact rfl | apply And.intro)); done) | (simp; omega) | (refine ⟨?_, ?_, ?_⟩ <;> first | omega | (simp; done) | (simp; omega)) | exact hc0 | exact ⟨hc0, hc0⟩ | exact ⟨hc0, hc0, hc0⟩ | (simp only [Bool.and_eq_true] at hc0; simp [hc0]; done) | (simp_all; done))))
                | ((first | with_reducible apply DrawR.go0 | with_reducible apply KerB.mk); (focus kernel_rfl))
                | (first | with_reducible apply ends_ret | with_reducible apply ends_norm | with_reducible apply Halt'.mk)
                | ((with_reducible apply CondD.mk) <;> intro hb <;> (try simp only [SPLT] at hb) <;> (try first | contradiction | exact absurd hb (by assumption) | exact absurd (by assumption) hb | (exfalso; omega) | (exfalso; simp at hb; done))))
            all_goals (try exact (false : Bool))
            · have hcc : (els.take i).contains n = true := by
                rw [List.contains_iff_mem]
                have hmn : m = n := by omega
                subst hmn
                exact List.mem_take_iff_getElem.2 ⟨j, by omega, (List.getElem?_eq_some_iff.1 hy).2⟩
              rw [if_pos hcc] at hv
              exact absurd hv (by decide)
            · refine ⟨j + 1, ⟨by omega, ?_⟩, by omega, ?_⟩
              · rw [take_at hy]
                simp_all
                omega
              · (conv => whnf)
                refine ⟨?_, by rfl⟩
                repeat' ((conv => whnf); first | exact DLes.nil | with_reducible exact DLe.refl _ | exact DLe.any _ | with_reducible apply DLes.cons | exact DLe.refl _ | exact dle_int (by omega) | exact dle_nil rfl | exact DLe.own _ _)
end Go.Proofs.YtbphihljkbdfpaaGreatDoor
