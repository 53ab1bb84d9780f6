/- The last day and the agreements that no case finds: the reference's walks, and the law's. -/
import Derived.Test.YthbhjladfniboaaGreatDoorZ13
namespace Go.Proofs.YthbhjladfniboaaGreatDoor
set_option linter.unusedSimpArgs false
set_option linter.unusedVariables false
open Go.RowKit
set_option maxRecDepth 100000
set_option maxHeartbeats 20000000

theorem any_drop {α : Type} {L : List α} {p : α → Bool} {k : Nat} {x : α} (h : L[k]? = some x) : (L.drop k).any p = (p x || (L.drop (k + 1)).any p) := by
  rw [drop_at h, List.any_cons]
theorem Until8_sem (p : List Par) (l : List Agr) (c : Cas) (hok : ∀ x ∈ p, x.Ok) (hl : ∀ a ∈ l, a.Ok) (hc : c.Ok) : Sem Tryz.prog 6 [.sl 0 2 (p.map Par.row), .sl 0 9 (l.map Agr.row), c.d] (.tup [.int .i64 (UntilN p l c).1, .int .i64 (UntilN p l c).2]) := by
  have hz : askedN p l c = 0 → l.length ≤ 1000000 ∧ ∀ a ∈ l, ownFaultN a = 0 := fun h => by
    obtain ⟨h1, h2, h3⟩ := agreementsN_ok (askedN_ok h).1
    exact ⟨by omega, agrFaults_ok h3⟩
  have htl := turnsN_len l
  refine sem_intro (M := fun t => mem t [12, 1000052, 1000053]) hT hM Tryz.func6 inferInstance rfl rfl rfl rfl rfl rfl ?_
  repeat' (
    (conv => whnf)
    first
      | ((try ((first | with_reducible apply NumE.go | with_reducible apply IdxE.go | with_reducible apply TextE.go | with_reducible apply LookE.go | with_reducible apply CallE.go); (conv => whnf))); (with_reducible apply SideD.mk); (focus ((first | (intro hc; have hc0 := hc; (try simp only [SPLT] at hc); (try refine And.intro (by first | exact hc0 | exact ⟨hc0, hc0⟩ | exact ⟨hc0, hc0, hc0⟩) ?_)) | skip); first | exact idx_nat (by assumption) | exact idx_some (by omega) (by assumption) | exact idx_eq (by assumption) (by omega) | ((try apply givesl); (focus (((first | apply gives_go (find8_sem _ _ (hz (by assumption)).1 (hz (by assumption)).2) | apply gives_go (turns8_sem _ (hz (by assumption)).1 (hz (by assumption)).2) | apply gives_go (askCase_sem _ _ _ _ _ _)); (focus (first | exact DLes.refl _ | (repeat (first | exact DLes.nil | ((apply DLes.cons); (focus (first | exact DLe.refl _ | exact DLe.own _ _ | exact DLe.nil _ _ | exact DLe.any _))))))); (focus exact rfl); (all_goals (first | exact rfl | assumption | omega | (simp; omega) | (simp; done)))))); (all_goals exact rfl)) | exact IntWalk.i64_in _ (by omega) | exact IntWalk.u8_in _ (by omega) | exact IntWalk.u64_in _ (by omega) | exact IntWalk.i32_in _ (by omega) | exact rfl | exact ⟨by omega, rfl⟩ | exact ⟨rfl, rfl⟩ | assumption | exact ⟨by omega, by omega⟩ | exact ⟨by omega, by simp; omega⟩ | omega | exact ⟨rfl, rfl, by simp only [List.length_map, List.length_append, List.length_cons, List.length_nil]; omega⟩ | exact ⟨rfl, rfl, by simp; omega⟩ | exact ⟨rfl, rfl, by omega⟩ | exact ⟨rfl, by simp; omega⟩ | exact id | (intro h; simp [h]; done) | ((repeat (first | exact trivial | exact rfl | apply And.intro)); done) | (simp; omega) | (refine ⟨?_, ?_, ?_⟩ <;> first | omega | (simp; done) | (simp; omega)) | exact hc0 | exact ⟨hc0, hc0⟩ | exact ⟨hc0, hc0, hc0⟩ | (simp only [Bool.and_eq_true] at hc0; simp [hc0]; done) | (simp_all; done))))
      | ((first | with_reducible apply DrawR.go0 | with_reducible apply KerB.mk); (focus kernel_rfl))
      | (first | with_reducible apply ends_ret | with_reducible apply ends_norm | with_reducible apply Halt'.mk)
      | ((with_reducible apply CondD.mk) <;> intro hb <;> (try simp only [SPLT] at hb) <;> (try first | contradiction | exact absurd hb (by assumption) | exact absurd (by assumption) hb | (exfalso; omega))))
  all_goals (try exact (false : Bool))
  · repeat' ((conv => whnf); first | exact trivial | with_reducible apply And.intro | with_reducible apply endsO_ret | with_reducible apply endsO_norm | exact DLes.nil | with_reducible exact DLe.refl _ | exact DLe.any _ | with_reducible apply DLes.cons | with_reducible exact rle_refl | exact rle_bool rfl | exact rle_int rfl | exact rle_nil rfl | exact rle_sl0 rfl)
    all_goals (conv => whnf)
    all_goals (refine rle_int ?_; simp_all [UntilN]; done)
  · rename_i ha
    repeat' ((conv => whnf); first | exact trivial | with_reducible apply And.intro | with_reducible apply endsO_ret | with_reducible apply endsO_norm | exact DLes.nil | with_reducible exact DLe.refl _ | exact DLe.any _ | with_reducible apply DLes.cons | with_reducible exact rle_refl | exact rle_bool rfl | exact rle_int rfl | exact rle_nil rfl | exact rle_sl0 rfl)
    all_goals (conv => whnf)
    all_goals (refine rle_int ?_; rw [UntilN, if_neg (by simpa using ha), if_pos hb])
  · have ha : askedN p l c = 0 := by assumption
    have hf : 0 ≤ findN l c := by assumption
    obtain ⟨hlen, hown⟩ := hz ha
    have hday := case_day (askedN_ok ha).2
    have hU : UntilN p l c = (until8D l c (findN l c) (turnsN l), 0) := by
      rw [UntilN, if_neg (by simpa using ha), if_neg (by omega), until8_eq]
    rw [hU]
    generalize turnsN l = ds at *
    refine ht_down [26] ?_
    conv => whnf
    refine loop_go (M := fun t => mem t [12, 1000052, 1000053]) hT hM (fun k : Nat => [(28, .int .i64 k)]) (fun k => k ≤ ds.length ∧ until8D l c (findN l c) (ds.drop k) = until8D l c (findN l c) ds) (fun k => ds.length - k) (0) ?_ ?_ ?_
    · (conv => whnf)
      refine ⟨?_, by rfl⟩
      repeat' ((conv => whnf); first | exact DLes.nil | with_reducible exact DLe.refl _ | exact DLe.any _ | with_reducible apply DLes.cons | exact DLe.refl _ | exact dle_int (by omega) | exact dle_nil rfl | exact DLe.own _ _)
    · exact ⟨by simp, rfl⟩
    · rintro k ⟨hk, hrest⟩
      rcases hx : ds[k]? with _ | d
      · have hk' : k = ds.length := by have := List.getElem?_eq_none_iff.1 hx; omega
        subst hk'
        rw [List.drop_length] at hrest
        repeat' (
          (conv => whnf)
          first
            | ((try ((first | with_reducible apply NumE.go | with_reducible apply IdxE.go | with_reducible apply TextE.go | with_reducible apply LookE.go | with_reducible apply CallE.go); (conv => whnf))); (with_reducible apply SideD.mk); (focus ((first | (intro hc; have hc0 := hc; (try simp only [SPLT] at hc); (try refine And.intro (by first | exact hc0 | exact ⟨hc0, hc0⟩ | exact ⟨hc0, hc0, hc0⟩) ?_)) | skip); first | exact idx_nat (by assumption) | exact idx_some (by omega) (by assumption) | exact idx_eq (by assumption) (by omega) | ((try apply givesl); (focus (((first | apply gives_go (find8_sem l (c.on 0) hlen hown) | apply gives_go (askCase_sem _ _ _ _ _ _) | apply gives_go (turns8_sem _ _ _)); (focus (first | exact DLes.refl _ | (repeat (first | exact DLes.nil | ((apply DLes.cons); (focus (first | exact DLe.refl _ | exact DLe.own _ _ | exact DLe.nil _ _ | exact DLe.any _))))))); (focus exact rfl); (all_goals (first | exact rfl | assumption | omega | (simp; omega) | (simp; done)))))); (all_goals exact rfl)) | exact IntWalk.i64_in _ (by omega) | exact IntWalk.u8_in _ (by omega) | exact IntWalk.u64_in _ (by omega) | exact IntWalk.i32_in _ (by omega) | exact rfl | exact ⟨by omega, rfl⟩ | exact ⟨rfl, rfl⟩ | assumption | exact ⟨by omega, by omega⟩ | exact ⟨by omega, by simp; omega⟩ | omega | exact ⟨rfl, rfl, by simp only [List.length_map, List.length_append, List.length_cons, List.length_nil]; omega⟩ | exact ⟨rfl, rfl, by simp; omega⟩ | exact ⟨rfl, rfl, by omega⟩ | exact ⟨rfl, by simp; omega⟩ | exact id | (intro h; simp [h]; done) | ((repeat (first | exact trivial | exact rfl | apply And.intro)); done) | (simp; omega) | (refine ⟨?_, ?_, ?_⟩ <;> first | omega | (simp; done) | (simp; omega)) | exact hc0 | exact ⟨hc0, hc0⟩ | exact ⟨hc0, hc0, hc0⟩ | (simp only [Bool.and_eq_true] at hc0; simp [hc0]; done) | (simp_all; done))))
            | ((first | with_reducible apply DrawR.go0 | with_reducible apply KerB.mk); (focus kernel_rfl))
            | (first | with_reducible apply ends_ret | with_reducible apply ends_norm | with_reducible apply Halt'.mk)
            | ((with_reducible apply CondD.mk) <;> intro hb <;> (try simp only [SPLT] at hb) <;> (try first | contradiction | exact absurd hb (by assumption) | exact absurd (by assumption) hb | (exfalso; omega))))
        all_goals (try exact (false : Bool))
        repeat' ((conv => whnf); first | exact trivial | with_reducible apply And.intro | with_reducible apply endsO_ret | with_reducible apply endsO_norm | exact DLes.nil | with_reducible exact DLe.refl _ | exact DLe.any _ | with_reducible apply DLes.cons | with_reducible exact rle_refl | exact rle_bool rfl | exact rle_int rfl | exact rle_nil rfl | exact rle_sl0 rfl)
        all_goals (conv => whnf)
        exact rle_int hrest
      · have hlt := (List.getElem?_eq_some_iff.1 hx).1
        rw [until8_cons hx] at hrest
        repeat' (
          (conv => whnf)
          first
            | ((try ((first | with_reducible apply NumE.go | with_reducible apply IdxE.go | with_reducible apply TextE.go | with_reducible apply LookE.go | with_reducible apply CallE.go); (conv => whnf))); (with_reducible apply SideD.mk); (focus ((first | (intro hc; have hc0 := hc; (try simp only [SPLT] at hc); (try refine And.intro (by first | exact hc0 | exact ⟨hc0, hc0⟩ | exact ⟨hc0, hc0, hc0⟩) ?_)) | skip); first | exact idx_nat (by assumption) | exact idx_some (by omega) (by assumption) | exact idx_eq (by assumption) (by omega) | ((try apply givesl); (focus (((first | apply gives_go (find8_sem l (c.on d) hlen hown) | apply gives_go (askCase_sem _ _ _ _ _ _) | apply gives_go (turns8_sem _ _ _)); (focus (first | exact DLes.refl _ | (repeat (first | exact DLes.nil | ((apply DLes.cons); (focus (first | exact DLe.refl _ | exact DLe.own _ _ | exact DLe.nil _ _ | exact DLe.any _))))))); (focus exact rfl); (all_goals (first | exact rfl | assumption | omega | (simp; omega) | (simp; done)))))); (all_goals exact rfl)) | exact IntWalk.i64_in _ (by omega) | exact IntWalk.u8_in _ (by omega) | exact IntWalk.u64_in _ (by omega) | exact IntWalk.i32_in _ (by omega) | exact rfl | exact ⟨by omega, rfl⟩ | exact ⟨rfl, rfl⟩ | assumption | exact ⟨by omega, by omega⟩ | exact ⟨by omega, by simp; omega⟩ | omega | exact ⟨rfl, rfl, by simp only [List.length_map, List.length_append, List.length_cons, List.length_nil]; omega⟩ | exact ⟨rfl, rfl, by simp; omega⟩ | exact ⟨rfl, rfl, by omega⟩ | exact ⟨rfl, by simp; omega⟩ | exact id | (intro h; simp [h]; done) | ((repeat (first | exact trivial | exact rfl | apply And.intro)); done) | (simp; omega) | (refine ⟨?_, ?_, ?_⟩ <;> first | omega | (simp; done) | (simp; omega)) | exact hc0 | exact ⟨hc0, hc0⟩ | exact ⟨hc0, hc0, hc0⟩ | (simp only [Bool.and_eq_true] at hc0; simp [hc0]; done) | (simp_all; done))))
            | ((first | with_reducible apply DrawR.go0 | with_reducible apply KerB.mk); (focus kernel_rfl))
            | (first | with_reducible apply ends_ret | with_reducible apply ends_norm | with_reducible apply Halt'.mk)
            | ((with_reducible apply CondD.mk) <;> intro hb <;> (try simp only [SPLT] at hb) <;> (try first | contradiction | exact absurd hb (by assumption) | exact absurd (by assumption) hb | (exfalso; omega))))
        all_goals (try exact (false : Bool))
        · rw [if_pos (by omega)] at hrest
          refine ⟨k + 1, ⟨by omega, hrest⟩, by omega, ?_⟩
          (conv => whnf)
          refine ⟨?_, by rfl⟩
          repeat' ((conv => whnf); first | exact DLes.nil | with_reducible exact DLe.refl _ | exact DLe.any _ | with_reducible apply DLes.cons | exact DLe.refl _ | exact dle_int (by omega) | exact dle_nil rfl | exact DLe.own _ _)
        · rw [if_neg (by omega), if_pos (by simpa using hb)] at hrest
          repeat' ((conv => whnf); first | exact trivial | with_reducible apply And.intro | with_reducible apply endsO_ret | with_reducible apply endsO_norm | exact DLes.nil | with_reducible exact DLe.refl _ | exact DLe.any _ | with_reducible apply DLes.cons | with_reducible exact rle_refl | exact rle_bool rfl | exact rle_int rfl | exact rle_nil rfl | exact rle_sl0 rfl)
          all_goals (conv => whnf)
          exact rle_int hrest
        · rw [if_neg (by omega), if_neg (by simpa using hb)] at hrest
          refine ⟨k + 1, ⟨by omega, hrest⟩, by omega, ?_⟩
          (conv => whnf)
          refine ⟨?_, by rfl⟩
          repeat' ((conv => whnf); first | exact DLes.nil | with_reducible exact DLe.refl _ | exact DLe.any _ | with_reducible apply DLes.cons | exact DLe.refl _ | exact dle_int (by omega) | exact dle_nil rfl | exact DLe.own _ _)
theorem Equal_sem (x y : List Int) (hx : x.length ≤ 1000000) (hy : y.length ≤ 1000000) : Sem Tryz.prog 9 [.sl 0 1 (x.map iR), .sl 0 1 (y.map iR)] (.bool (x == y)) := by
  refine sem_intro (M := fun t => mem t [1000052, 1000053]) hT hM Tryz.func9 inferInstance rfl rfl rfl rfl rfl rfl ?_
  repeat' (
    (conv => whnf)
    first
      | ((try ((first | with_reducible apply NumE.go | with_reducible apply IdxE.go | with_reducible apply TextE.go | with_reducible apply LookE.go | with_reducible apply CallE.go); (conv => whnf))); (with_reducible apply SideD.mk); (focus (first | exact idx_nat (by assumption) | exact idx_some (by omega) (by assumption) | exact idx_eq (by assumption) (by omega) | exact IntWalk.i64_in _ (by omega) | exact IntWalk.u8_in _ (by omega) | exact IntWalk.u64_in _ (by omega) | exact IntWalk.i32_in _ (by omega) | exact rfl | exact ⟨by omega, rfl⟩ | exact ⟨rfl, rfl⟩ | assumption | exact ⟨by omega, by omega⟩ | exact ⟨by omega, by simp; omega⟩ | omega | exact ⟨rfl, rfl, by simp only [List.length_map, List.length_append, List.length_cons, List.length_nil]; omega⟩ | exact ⟨rfl, rfl, by simp; omega⟩ | exact ⟨rfl, rfl, by omega⟩ | exact ⟨rfl, by simp; omega⟩ | exact id | (intro h; simp [h]; done) | ((repeat (first | exact trivial | exact rfl | apply And.intro)); done) | (simp; omega) | (refine ⟨?_, ?_, ?_⟩ <;> first | omega | (simp; done) | (simp; omega)) | (simp_all; done))))
      | ((first | with_reducible apply DrawR.go0 | with_reducible apply KerB.mk); (focus kernel_rfl))
      | (first | with_reducible apply ends_ret | with_reducible apply ends_norm | with_reducible apply Halt'.mk)
      | ((with_reducible apply CondD.mk) <;> intro hb <;> (try simp only [SPLT] at hb) <;> (try first | contradiction | exact absurd hb (by assumption) | exact absurd (by assumption) hb | (exfalso; omega))))
  all_goals (try exact (false : Bool))
  · repeat' ((conv => whnf); first | exact trivial | with_reducible apply And.intro | with_reducible apply endsO_ret | with_reducible apply endsO_norm | exact DLes.nil | with_reducible exact DLe.refl _ | exact DLe.any _ | with_reducible apply DLes.cons | with_reducible exact rle_refl | exact rle_bool rfl | exact rle_int rfl | exact rle_nil rfl | exact rle_sl0 rfl)
    all_goals (conv => whnf)
    refine rle_bool ?_
    have : x ≠ y := fun e => by subst e; exact hb rfl
    simpa using this
  · have hxy : x.length = y.length := by first | omega | (simp at hb; omega)
    refine loop_go (M := fun t => mem t [1000052, 1000053]) hT hM (fun k : Nat => [(13, .int .i64 k)]) (fun k => k ≤ x.length ∧ (x == y) = (x.drop k == y.drop k)) (fun k => x.length - k) (0) ?_ ?_ ?_
    · (conv => whnf)
      refine ⟨?_, by rfl⟩
      repeat' ((conv => whnf); first | exact DLes.nil | with_reducible exact DLe.refl _ | exact DLe.any _ | with_reducible apply DLes.cons | exact DLe.refl _ | exact dle_int (by omega) | exact dle_nil rfl | exact DLe.own _ _)
    · exact ⟨Nat.zero_le _, by simp⟩
    · rintro k ⟨hk, hrest⟩
      rcases hxk : x[k]? with _ | n
      · have hk' : k = x.length := by have := List.getElem?_eq_none_iff.1 hxk; omega
        subst hk'
        repeat' (
          (conv => whnf)
          first
            | ((try ((first | with_reducible apply NumE.go | with_reducible apply IdxE.go | with_reducible apply TextE.go | with_reducible apply LookE.go | with_reducible apply CallE.go); (conv => whnf))); (with_reducible apply SideD.mk); (focus (first | exact idx_nat (by assumption) | exact idx_some (by omega) (by assumption) | exact idx_eq (by assumption) (by omega) | exact IntWalk.i64_in _ (by omega) | exact IntWalk.u8_in _ (by omega) | exact IntWalk.u64_in _ (by omega) | exact IntWalk.i32_in _ (by omega) | exact rfl | exact ⟨by omega, rfl⟩ | exact ⟨rfl, rfl⟩ | assumption | exact ⟨by omega, by omega⟩ | exact ⟨by omega, by simp; omega⟩ | omega | exact ⟨rfl, rfl, by simp only [List.length_map, List.length_append, List.length_cons, List.length_nil]; omega⟩ | exact ⟨rfl, rfl, by simp; omega⟩ | exact ⟨rfl, rfl, by omega⟩ | exact ⟨rfl, by simp; omega⟩ | exact id | (intro h; simp [h]; done) | ((repeat (first | exact trivial | exact rfl | apply And.intro)); done) | (simp; omega) | (refine ⟨?_, ?_, ?_⟩ <;> first | omega | (simp; done) | (simp; omega)) | (simp_all; done))))
            | ((first | with_reducible apply DrawR.go0 | with_reducible apply KerB.mk); (focus kernel_rfl))
            | (first | with_reducible apply ends_ret | with_reducible apply ends_norm | with_reducible apply Halt'.mk)
            | ((with_reducible apply CondD.mk) <;> intro hb <;> (try simp only [SPLT] at hb) <;> (try first | contradiction | exact absurd hb (by assumption) | exact absurd (by assumption) hb | (exfalso; omega))))
        all_goals (try exact (false : Bool))
        repeat' ((conv => whnf); first | exact trivial | with_reducible apply And.intro | with_reducible apply endsO_ret | with_reducible apply endsO_norm | exact DLes.nil | with_reducible exact DLe.refl _ | exact DLe.any _ | with_reducible apply DLes.cons | with_reducible exact rle_refl | exact rle_bool rfl | exact rle_int rfl | exact rle_nil rfl | exact rle_sl0 rfl)
        all_goals (conv => whnf)
        refine rle_bool ?_
        rw [hrest]
        simp [hxy]
      · have hlt := (List.getElem?_eq_some_iff.1 hxk).1
        obtain ⟨m, hyk⟩ : ∃ m, y[k]? = some m := ⟨y[k], List.getElem?_eq_getElem (by omega)⟩
        have hlty := (List.getElem?_eq_some_iff.1 hyk).1
        rw [drop_at hxk, drop_at hyk] at hrest
        repeat' (
          (conv => whnf)
          first
            | ((try ((first | with_reducible apply NumE.go | with_reducible apply IdxE.go | with_reducible apply TextE.go | with_reducible apply LookE.go | with_reducible apply CallE.go); (conv => whnf))); (with_reducible apply SideD.mk); (focus (first | exact idx_nat (by assumption) | exact idx_some (by omega) (by assumption) | exact idx_eq (by assumption) (by omega) | exact IntWalk.i64_in _ (by omega) | exact IntWalk.u8_in _ (by omega) | exact IntWalk.u64_in _ (by omega) | exact IntWalk.i32_in _ (by omega) | exact rfl | exact ⟨by omega, rfl⟩ | exact ⟨rfl, rfl⟩ | assumption | exact ⟨by omega, by omega⟩ | exact ⟨by omega, by simp; omega⟩ | omega | exact ⟨rfl, rfl, by simp only [List.length_map, List.length_append, List.length_cons, List.length_nil]; omega⟩ | exact ⟨rfl, rfl, by simp; omega⟩ | exact ⟨rfl, rfl, by omega⟩ | exact ⟨rfl, by simp; omega⟩ | exact id | (intro h; simp [h]; done) | ((repeat (first | exact trivial | exact rfl | apply And.intro)); done) | (simp; omega) | (refine ⟨?_, ?_, ?_⟩ <;> first | omega | (simp; done) | (simp; omega)) | (simp_all; done))))
            | ((first | with_reducible apply DrawR.go0 | with_reducible apply KerB.mk); (focus kernel_rfl))
            | (first | with_reducible apply ends_ret | with_reducible apply ends_norm | with_reducible apply Halt'.mk)
            | ((with_reducible apply CondD.mk) <;> intro hb <;> (try simp only [SPLT] at hb) <;> (try first | contradiction | exact absurd hb (by assumption) | exact absurd (by assumption) hb | (exfalso; omega))))
        all_goals (try exact (false : Bool))
        · repeat' ((conv => whnf); first | exact trivial | with_reducible apply And.intro | with_reducible apply endsO_ret | with_reducible apply endsO_norm | exact DLes.nil | with_reducible exact DLe.refl _ | exact DLe.any _ | with_reducible apply DLes.cons | with_reducible exact rle_refl | exact rle_bool rfl | exact rle_int rfl | exact rle_nil rfl | exact rle_sl0 rfl)
          all_goals (conv => whnf)
          refine rle_bool ?_
          rw [hrest]
          simp [hb]
        · refine ⟨k + 1, ⟨by omega, ?_⟩, by omega, ?_⟩
          · rw [hrest]
            simp [hb]
          · (conv => whnf)
            refine ⟨?_, by rfl⟩
            repeat' ((conv => whnf); first | exact DLes.nil | with_reducible exact DLe.refl _ | exact DLe.any _ | with_reducible apply DLes.cons | exact DLe.refl _ | exact dle_int (by omega) | exact dle_nil rfl | exact DLe.own _ _)
def idl31_6 : List (List Bool) := [[false, false, false, false, false, false, false, false, false, false, false, false], [true, false, false, false, false, false, false, false, false, false, false, false], [false, true, false, false, false, false, false, false, false, false, false, false], [false, false, false, false, false, true, false, false, false, false, false, false], [false, false, false, false, false, false, true, false, false, false, false, false], [true, true, false, false, false, false, false, false, false, false, false, false], [true, false, false, false, false, true, false, false, false, false, false, false], [true, false, false, false, false, false, true, false, false, false, false, false], [false, true, true, false, false, false, false, false, false, false, false, false], [false, true, false, false, false, true, false, false, false, false, false, false], [false, true, false, false, false, false, true, false, false, false, false, false], [false, false, false, false, false, true, true, false, false, false, false, false], [false, false, false, false, false, false, true, true, false, false, false, false], [true, true, true, false, false, false, false, false, false, false, false, false], [true, true, false, false, false, true, false, false, false, false, false, false], [true, true, false, false, false, false, true, false, false, false, false, false], [true, false, false, false, false, true, true, false, false, false, false, false], [true, false, false, false, false, false, true, true, false, false, false, false], [false, true, true, true, false, false, false, false, false, false, false, false], [false, true, true, false, false, true, false, false, false, false, false, false], [false, true, true, false, false, false, true, false, false, false, false, false], [false, true, false, false, false, true, true, false, false, false, false, false], [false, true, false, false, false, false, true, true, false, false, false, false], [false, false, false, false, false, true, true, true, false, false, false, false], [false, false, false, false, false, false, true, true, true, false, false, false], [true, true, true, true, false, false, false, false, false, false, false, false], [true, true, true, false, false, true, false, false, false, false, false, false], [true, true, true, false, false, false, true, false, false, false, false, false], [true, true, false, false, false, true, true, false, false, false, false, false], [true, true, false, false, false, false, true, true, false, false, false, false], [true, false, false, false, false, true, true, true, false, false, false, false], [true, false, false, false, false, false, true, true, true, false, false, false], [false, true, true, true, false, true, false, false, false, false, false, false], [false, true, true, true, false, false, true, false, false, false, false, false], [false, true, true, false, false, true, true, false, false, false, false, false], [false, true, true, false, false, false, true, true, false, false, false, false], [false, true, false, false, false, true, true, true, false, false, false, false], [false, true, false, false, false, false, true, true, true, false, false, false], [false, false, false, false, false, true, true, true, true, false, false, false], [true, true, true, true, true, false, false, false, false, false, false, false], [true, true, true, true, false, true, false, false, false, false, false, false], [true, true, true, true, false, false, true, false, false, false, false, false], [true, true, true, false, false, true, true, false, false, false, false, false], [true, true, true, false, false, false, true, true, false, false, false, false], [true, true, false, false, false, true, true, true, false, false, false, false], [true, true, false, false, false, false, true, true, true, false, false, false], [true, false, false, false, false, true, true, true, true, false, false, false], [false, true, true, true, false, true, true, false, false, false, false, false], [false, true, true, true, false, false, true, true, false, false, false, false], [false, true, true, false, false, true, true, true, false, false, false, false], [false, true, true, false, false, false, true, true, true, false, false, false], [false, true, false, false, false, true, true, true, true, false, false, false], [true, true, true, true, true, true, false, false, false, false, false, false], [true, true, true, true, true, false, true, false, false, false, false, false], [true, true, true, true, false, true, true, false, false, false, false, false], [true, true, true, true, false, false, true, true, false, false, false, false], [true, true, true, false, false, true, true, true, false, false, false, false], [true, true, true, false, false, false, true, true, true, false, false, false], [true, true, false, false, false, true, true, true, true, false, false, false], [false, true, true, true, false, true, true, true, false, false, false, false], [false, true, true, true, false, false, true, true, true, false, false, false], [false, true, true, false, false, true, true, true, true, false, false, false], [true, true, true, true, true, true, true, false, false, false, false, false], [true, true, true, true, true, false, true, true, false, false, false, false], [true, true, true, true, false, true, true, true, false, false, false, false], [true, true, true, true, false, false, true, true, true, false, false, false], [true, true, true, false, false, true, true, true, true, false, false, false], [false, true, true, true, false, true, true, true, true, false, false, false], [true, true, true, true, true, true, true, true, false, false, false, false], [true, true, true, true, true, false, true, true, true, false, false, false], [true, true, true, true, false, true, true, true, true, false, false, false], [true, true, true, true, true, true, true, true, true, false, false, false], [true, true, true, true, true, true, true, true, true, true, false, false], [true, true, true, true, true, true, true, true, true, true, true, false], [true, true, true, true, true, true, true, true, true, true, true, true]]
def idl31_14 : List (List Bool) := [[false, false, false, false, false, false, false, false], [true, false, false, false, false, false, false, false], [false, false, true, false, false, false, false, false], [false, false, false, false, false, false, false, true], [true, true, false, false, false, false, false, false], [true, false, true, false, false, false, false, false], [true, false, false, false, false, false, false, true], [false, false, true, true, false, false, false, false], [false, false, true, false, false, false, false, true], [true, true, true, false, false, false, false, false], [true, true, false, false, false, false, false, true], [true, false, true, true, false, false, false, false], [true, false, true, false, false, false, false, true], [false, false, true, true, true, false, false, false], [false, false, true, true, false, false, false, true], [true, true, true, true, false, false, false, false], [true, true, true, false, false, false, false, true], [true, false, true, true, true, false, false, false], [true, false, true, true, false, false, false, true], [false, false, true, true, true, false, false, true], [true, true, true, true, true, false, false, false], [true, true, true, true, false, false, false, true], [true, false, true, true, true, false, false, true], [true, true, true, true, true, true, false, false], [true, true, true, true, true, false, false, true], [true, true, true, true, true, true, true, false], [true, true, true, true, true, true, false, true], [true, true, true, true, true, true, true, true]]
theorem isFound_sem (l : List Agr) (i : Nat) (a : Agr) (ha : l[i]? = some a) (hl : l.length ≤ 1000000) (ho : ∀ a ∈ l, ownFaultN a = 0) : Sem Tryz.prog 31 [.sl 0 9 (l.map Agr.row), .int .i64 i] (.bool (foundA l i a)) := by
  have hil := (List.getElem?_eq_some_iff.1 ha).1
  have htl := turnsN_len l
  have hml : ∀ k, (msgsN (l.take k)).length ≤ l.length := fun k => by simp [msgsN, List.length_take]; omega
  have hvl : ∀ k, (versN (l.take k)).length ≤ l.length := fun k => by simp [versN, List.length_take]; omega
  refine sem_intro (M := fun t => mem t [5000006, 5000014, 1000052, 1000053]) hT hM Tryz.func31 inferInstance rfl rfl rfl rfl rfl rfl ?_
  repeat' (
    (conv => whnf)
    first
      | ((with_reducible apply DrawI.at 27 idl31_6); (focus exact rfl); (focus kernel_rfl))
      | ((with_reducible apply DrawI.at 56 idl31_14); (focus exact rfl); (focus kernel_rfl))
      | with_reducible apply ExE.go
      | ((with_reducible apply EqF.mk); (focus exact rfl))
      | with_reducible apply AndI.mk
      | with_reducible exact trivial
      | ((try ((first | with_reducible apply NumE.go | with_reducible apply IdxE.go | with_reducible apply TextE.go | with_reducible apply LookE.go | with_reducible apply CallE.go); (conv => whnf))); (with_reducible apply SideD.mk); (focus ((first | (intro hc; have hc0 := hc; (try simp only [SPLT] at hc); (try refine And.intro (by first | exact hc0 | exact ⟨hc0, hc0⟩ | exact ⟨hc0, hc0, hc0⟩) ?_)) | skip); first | exact idx_nat (by assumption) | exact idx_some (by omega) (by assumption) | exact idx_eq (by assumption) (by omega) | ((try apply givesl); (focus (((first | apply gives_go (some_sem _ _ _) | apply gives_go (turns8_sem _ _ _) | apply gives_go (find8_sem _ _ _ _)); (focus (first | exact DLes.refl _ | (repeat (first | exact DLes.nil | ((apply DLes.cons); (focus (first | exact DLe.refl _ | exact DLe.own _ _ | exact DLe.nil _ _ | exact DLe.any _))))))); (focus exact rfl); (all_goals (first | exact rfl | assumption | omega | (simp; omega) | (simp; done)))))); (all_goals exact rfl)) | exact IntWalk.i64_in _ (by omega) | exact IntWalk.u8_in _ (by omega) | exact IntWalk.u64_in _ (by omega) | exact IntWalk.i32_in _ (by omega) | exact rfl | exact ⟨by omega, rfl⟩ | exact ⟨rfl, rfl⟩ | assumption | exact ⟨by omega, by omega⟩ | exact ⟨by omega, by simp; omega⟩ | omega | exact ⟨rfl, rfl, by simp only [List.length_map, List.length_append, List.length_cons, List.length_nil]; omega⟩ | exact ⟨rfl, rfl, by simp; omega⟩ | exact ⟨rfl, rfl, by omega⟩ | exact ⟨rfl, by simp; omega⟩ | exact id | (intro h; simp [h]; done) | ((repeat (first | exact trivial | exact rfl | apply And.intro)); done) | (simp; omega) | (refine ⟨?_, ?_, ?_⟩ <;> first | omega | (simp; done) | (simp; omega)) | exact hc0 | exact ⟨hc0, hc0⟩ | exact ⟨hc0, hc0, hc0⟩ | (simp only [Bool.and_eq_true] at hc0; simp [hc0]; done) | (simp_all; done))))
      | ((first | with_reducible apply DrawR.go0 | with_reducible apply KerB.mk); (focus kernel_rfl))
      | (first | with_reducible apply ends_ret | with_reducible apply ends_norm | with_reducible apply Halt'.mk)
      | ((with_reducible apply CondD.mk) <;> intro hb <;> (try simp only [SPLT] at hb) <;> (try first | contradiction | exact absurd hb (by assumption) | exact absurd (by assumption) hb | (exfalso; omega))))
  all_goals (try exact (false : Bool))
  refine loop_go (M := fun t => mem t [5000006, 5000014, 1000052, 1000053]) hT hM (fun k : Nat => [(23, .int .i64 k), (6, .sl 2 1 ((msgsN (l.take k)).map sR)), (7, .sl 2 1 ((versN (l.take k)).map sR))]) (fun k => k ≤ l.length) (fun k => l.length - k) (0) ?_ ?_ ?_
  · (conv => whnf)
    refine ⟨?_, by rfl⟩
    repeat' ((conv => whnf); first | exact DLes.nil | with_reducible exact DLe.refl _ | exact DLe.any _ | with_reducible apply DLes.cons | exact DLe.refl _ | exact dle_int (by omega) | exact dle_nil rfl | exact DLe.own _ _ | (exact dle_nil rfl))
  · exact Nat.zero_le _
  · intro k hk
    have h1 := hml k
    have h2 := hvl k
    rcases hx : l[k]? with _ | x
    · have hk' : k = l.length := by have := List.getElem?_eq_none_iff.1 hx; omega
      subst hk'
      rw [List.take_length] at h1 h2 ⊢
      repeat' (
        (conv => whnf)
        first
          | ((with_reducible apply DrawI.at 27 idl31_6); (focus exact rfl); (focus kernel_rfl))
          | ((with_reducible apply DrawI.at 56 idl31_14); (focus exact rfl); (focus kernel_rfl))
          | with_reducible apply ExE.go
          | ((with_reducible apply EqF.mk); (focus exact rfl))
          | with_reducible apply AndI.mk
          | with_reducible exact trivial
          | ((try ((first | with_reducible apply NumE.go | with_reducible apply IdxE.go | with_reducible apply TextE.go | with_reducible apply LookE.go | with_reducible apply CallE.go); (conv => whnf))); (with_reducible apply SideD.mk); (focus ((first | (intro hc; have hc0 := hc; (try simp only [SPLT] at hc); (try refine And.intro (by first | exact hc0 | exact ⟨hc0, hc0⟩ | exact ⟨hc0, hc0, hc0⟩) ?_)) | skip); first | exact idx_nat (by assumption) | exact idx_some (by omega) (by assumption) | exact idx_eq (by assumption) (by omega) | ((try apply givesl); (focus (((first | apply gives_go (some_sem a.msg (msgsN l) (by omega)) | apply gives_go (turns8_sem _ _ _) | apply gives_go (find8_sem _ _ _ _)); (focus (first | exact DLes.refl _ | (repeat (first | exact DLes.nil | ((apply DLes.cons); (focus (first | exact DLe.refl _ | exact DLe.own _ _ | exact DLe.nil _ _ | exact DLe.any _))))))); (focus exact rfl); (all_goals (first | exact rfl | assumption | omega | (simp; omega) | (simp; done)))))); (all_goals exact rfl)) | exact IntWalk.i64_in _ (by omega) | exact IntWalk.u8_in _ (by omega) | exact IntWalk.u64_in _ (by omega) | exact IntWalk.i32_in _ (by omega) | exact rfl | exact ⟨by omega, rfl⟩ | exact ⟨rfl, rfl⟩ | assumption | exact ⟨by omega, by omega⟩ | exact ⟨by omega, by simp; omega⟩ | omega | exact ⟨rfl, rfl, by simp only [List.length_map, List.length_append, List.length_cons, List.length_nil]; omega⟩ | exact ⟨rfl, rfl, by simp; omega⟩ | exact ⟨rfl, rfl, by omega⟩ | exact ⟨rfl, by simp; omega⟩ | exact id | (intro h; simp [h]; done) | ((repeat (first | exact trivial | exact rfl | apply And.intro)); done) | (simp; omega) | (refine ⟨?_, ?_, ?_⟩ <;> first | omega | (simp; done) | (simp; omega)) | exact hc0 | exact ⟨hc0, hc0⟩ | exact ⟨hc0, hc0, hc0⟩ | (simp only [Bool.and_eq_true] at hc0; simp [hc0]; done) | (simp_all; done))))
          | ((first | with_reducible apply DrawR.go0 | with_reducible apply KerB.mk); (focus kernel_rfl))
          | (first | with_reducible apply ends_ret | with_reducible apply ends_norm | with_reducible apply Halt'.mk)
          | ((with_reducible apply CondD.mk) <;> intro hb <;> (try simp only [SPLT] at hb) <;> (try first | contradiction | exact absurd hb (by assumption) | exact absurd (by assumption) hb | (exfalso; omega))))
      all_goals (try exact (false : Bool))
      have hml' := someN_len a.msg (msgsN l)
      generalize hms : someN a.msg (msgsN l) = ms at *
      refine ht_down [41, 7] ?_
      conv => whnf
      refine loop_go (M := fun t => mem t [5000006, 5000014, 1000052, 1000053]) hT hM (fun k : Nat => [(43, .int .i64 k)]) (fun k => k ≤ ms.length ∧ (ms.drop k).any (hitM l i a) = foundA l i a) (fun k => ms.length - k) (0) ?_ ?_ ?_
      · (conv => whnf)
        refine ⟨?_, by rfl⟩
        repeat' ((conv => whnf); first | exact DLes.nil | with_reducible exact DLe.refl _ | exact DLe.any _ | with_reducible apply DLes.cons | exact DLe.refl _ | exact dle_int (by omega) | exact dle_nil rfl | exact DLe.own _ _)
      · exact ⟨Nat.zero_le _, by rw [foundA, hms]; rfl⟩
      · rintro km ⟨hkm, hrm⟩
        rcases hxm : ms[km]? with _ | m
        · have hk' : km = ms.length := by have := List.getElem?_eq_none_iff.1 hxm; omega
          subst hk'
          rw [List.drop_length] at hrm
          repeat' (
            (conv => whnf)
            first
              | ((with_reducible apply DrawI.at 27 idl31_6); (focus exact rfl); (focus kernel_rfl))
              | ((with_reducible apply DrawI.at 56 idl31_14); (focus exact rfl); (focus kernel_rfl))
              | with_reducible apply ExE.go
              | ((with_reducible apply EqF.mk); (focus exact rfl))
              | with_reducible apply AndI.mk
              | with_reducible exact trivial
              | ((try ((first | with_reducible apply NumE.go | with_reducible apply IdxE.go | with_reducible apply TextE.go | with_reducible apply LookE.go | with_reducible apply CallE.go); (conv => whnf))); (with_reducible apply SideD.mk); (focus ((first | (intro hc; have hc0 := hc; (try simp only [SPLT] at hc); (try refine And.intro (by first | exact hc0 | exact ⟨hc0, hc0⟩ | exact ⟨hc0, hc0, hc0⟩) ?_)) | skip); first | exact idx_nat (by assumption) | exact idx_some (by omega) (by assumption) | exact idx_eq (by assumption) (by omega) | ((try apply givesl); (focus (((first | apply gives_go (some_sem _ _ _) | apply gives_go (turns8_sem _ _ _) | apply gives_go (find8_sem _ _ _ _)); (focus (first | exact DLes.refl _ | (repeat (first | exact DLes.nil | ((apply DLes.cons); (focus (first | exact DLe.refl _ | exact DLe.own _ _ | exact DLe.nil _ _ | exact DLe.any _))))))); (focus exact rfl); (all_goals (first | exact rfl | assumption | omega | (simp; omega) | (simp; done)))))); (all_goals exact rfl)) | exact IntWalk.i64_in _ (by omega) | exact IntWalk.u8_in _ (by omega) | exact IntWalk.u64_in _ (by omega) | exact IntWalk.i32_in _ (by omega) | exact rfl | exact ⟨by omega, rfl⟩ | exact ⟨rfl, rfl⟩ | assumption | exact ⟨by omega, by omega⟩ | exact ⟨by omega, by simp; omega⟩ | omega | exact ⟨rfl, rfl, by simp only [List.length_map, List.length_append, List.length_cons, List.length_nil]; omega⟩ | exact ⟨rfl, rfl, by simp; omega⟩ | exact ⟨rfl, rfl, by omega⟩ | exact ⟨rfl, by simp; omega⟩ | exact id | (intro h; simp [h]; done) | ((repeat (first | exact trivial | exact rfl | apply And.intro)); done) | (simp; omega) | (refine ⟨?_, ?_, ?_⟩ <;> first | omega | (simp; done) | (simp; omega)) | exact hc0 | exact ⟨hc0, hc0⟩ | exact ⟨hc0, hc0, hc0⟩ | (simp only [Bool.and_eq_true] at hc0; simp [hc0]; done) | (simp_all; done))))
              | ((first | with_reducible apply DrawR.go0 | with_reducible apply KerB.mk); (focus kernel_rfl))
              | (first | with_reducible apply ends_ret | with_reducible apply ends_norm | with_reducible apply Halt'.mk)
              | ((with_reducible apply CondD.mk) <;> intro hb <;> (try simp only [SPLT] at hb) <;> (try first | contradiction | exact absurd hb (by assumption) | exact absurd (by assumption) hb | (exfalso; omega))))
          all_goals (try exact (false : Bool))
          repeat' ((conv => whnf); first | exact trivial | with_reducible apply And.intro | with_reducible apply endsO_ret | with_reducible apply endsO_norm | exact DLes.nil | with_reducible exact DLe.refl _ | exact DLe.any _ | with_reducible apply DLes.cons | with_reducible exact rle_refl | exact rle_bool rfl | exact rle_int rfl | exact rle_nil rfl | exact rle_sl0 rfl)
          all_goals (conv => whnf)
          exact rle_bool hrm
        · have hlm := (List.getElem?_eq_some_iff.1 hxm).1
          rw [any_drop hxm] at hrm
          repeat' (
            (conv => whnf)
            first
              | ((with_reducible apply DrawI.at 27 idl31_6); (focus exact rfl); (focus kernel_rfl))
              | ((with_reducible apply DrawI.at 56 idl31_14); (focus exact rfl); (focus kernel_rfl))
              | with_reducible apply ExE.go
              | ((with_reducible apply EqF.mk); (focus exact rfl))
              | with_reducible apply AndI.mk
              | with_reducible exact trivial
              | ((try ((first | with_reducible apply NumE.go | with_reducible apply IdxE.go | with_reducible apply TextE.go | with_reducible apply LookE.go | with_reducible apply CallE.go); (conv => whnf))); (with_reducible apply SideD.mk); (focus ((first | (intro hc; have hc0 := hc; (try simp only [SPLT] at hc); (try refine And.intro (by first | exact hc0 | exact ⟨hc0, hc0⟩ | exact ⟨hc0, hc0, hc0⟩) ?_)) | skip); first | exact idx_nat (by assumption) | exact idx_some (by omega) (by assumption) | exact idx_eq (by assumption) (by omega) | ((try apply givesl); (focus (((first | apply gives_go (some_sem a.ver (versN l) (by omega)) | apply gives_go (turns8_sem _ _ _) | apply gives_go (find8_sem _ _ _ _)); (focus (first | exact DLes.refl _ | (repeat (first | exact DLes.nil | ((apply DLes.cons); (focus (first | exact DLe.refl _ | exact DLe.own _ _ | exact DLe.nil _ _ | exact DLe.any _))))))); (focus exact rfl); (all_goals (first | exact rfl | assumption | omega | (simp; omega) | (simp; done)))))); (all_goals exact rfl)) | exact IntWalk.i64_in _ (by omega) | exact IntWalk.u8_in _ (by omega) | exact IntWalk.u64_in _ (by omega) | exact IntWalk.i32_in _ (by omega) | exact rfl | exact ⟨by omega, rfl⟩ | exact ⟨rfl, rfl⟩ | assumption | exact ⟨by omega, by omega⟩ | exact ⟨by omega, by simp; omega⟩ | omega | exact ⟨rfl, rfl, by simp only [List.length_map, List.length_append, List.length_cons, List.length_nil]; omega⟩ | exact ⟨rfl, rfl, by simp; omega⟩ | exact ⟨rfl, rfl, by omega⟩ | exact ⟨rfl, by simp; omega⟩ | exact id | (intro h; simp [h]; done) | ((repeat (first | exact trivial | exact rfl | apply And.intro)); done) | (simp; omega) | (refine ⟨?_, ?_, ?_⟩ <;> first | omega | (simp; done) | (simp; omega)) | exact hc0 | exact ⟨hc0, hc0⟩ | exact ⟨hc0, hc0, hc0⟩ | (simp only [Bool.and_eq_true] at hc0; simp [hc0]; done) | (simp_all; done))))
              | ((first | with_reducible apply DrawR.go0 | with_reducible apply KerB.mk); (focus kernel_rfl))
              | (first | with_reducible apply ends_ret | with_reducible apply ends_norm | with_reducible apply Halt'.mk)
              | ((with_reducible apply CondD.mk) <;> intro hb <;> (try simp only [SPLT] at hb) <;> (try first | contradiction | exact absurd hb (by assumption) | exact absurd (by assumption) hb | (exfalso; omega))))
          all_goals (try exact (false : Bool))
          have hvl' := someN_len a.ver (versN l)
          generalize hvs : someN a.ver (versN l) = vs at *
          refine ht_down [50] ?_
          conv => whnf
          refine loop_go (M := fun t => mem t [5000006, 5000014, 1000052, 1000053]) hT hM (fun k : Nat => [(52, .int .i64 k)]) (fun k => k ≤ vs.length ∧ or ((vs.drop k).any (hitV l i a m)) ((ms.drop (km + 1)).any (hitM l i a)) = foundA l i a) (fun k => vs.length - k) (0) ?_ ?_ ?_
          · (conv => whnf)
            refine ⟨?_, by rfl⟩
            repeat' ((conv => whnf); first | exact DLes.nil | with_reducible exact DLe.refl _ | exact DLe.any _ | with_reducible apply DLes.cons | exact DLe.refl _ | exact dle_int (by omega) | exact dle_nil rfl | exact DLe.own _ _)
          · exact ⟨Nat.zero_le _, by rw [hitM, hvs] at hrm; exact hrm⟩
          · rintro kv ⟨hkv, hrv⟩
            rcases hxv : vs[kv]? with _ | v
            · have hk' : kv = vs.length := by have := List.getElem?_eq_none_iff.1 hxv; omega
              subst hk'
              rw [List.drop_length, List.any_nil, Bool.false_or] at hrv
              repeat' (
                (conv => whnf)
                first
                  | ((with_reducible apply DrawI.at 27 idl31_6); (focus exact rfl); (focus kernel_rfl))
                  | ((with_reducible apply DrawI.at 56 idl31_14); (focus exact rfl); (focus kernel_rfl))
                  | with_reducible apply ExE.go
                  | ((with_reducible apply EqF.mk); (focus exact rfl))
                  | with_reducible apply AndI.mk
                  | with_reducible exact trivial
                  | ((try ((first | with_reducible apply NumE.go | with_reducible apply IdxE.go | with_reducible apply TextE.go | with_reducible apply LookE.go | with_reducible apply CallE.go); (conv => whnf))); (with_reducible apply SideD.mk); (focus ((first | (intro hc; have hc0 := hc; (try simp only [SPLT] at hc); (try refine And.intro (by first | exact hc0 | exact ⟨hc0, hc0⟩ | exact ⟨hc0, hc0, hc0⟩) ?_)) | skip); first | exact idx_nat (by assumption) | exact idx_some (by omega) (by assumption) | exact idx_eq (by assumption) (by omega) | ((try apply givesl); (focus (((first | apply gives_go (some_sem _ _ _) | apply gives_go (turns8_sem _ _ _) | apply gives_go (find8_sem _ _ _ _)); (focus (first | exact DLes.refl _ | (repeat (first | exact DLes.nil | ((apply DLes.cons); (focus (first | exact DLe.refl _ | exact DLe.own _ _ | exact DLe.nil _ _ | exact DLe.any _))))))); (focus exact rfl); (all_goals (first | exact rfl | assumption | omega | (simp; omega) | (simp; done)))))); (all_goals exact rfl)) | exact IntWalk.i64_in _ (by omega) | exact IntWalk.u8_in _ (by omega) | exact IntWalk.u64_in _ (by omega) | exact IntWalk.i32_in _ (by omega) | exact rfl | exact ⟨by omega, rfl⟩ | exact ⟨rfl, rfl⟩ | assumption | exact ⟨by omega, by omega⟩ | exact ⟨by omega, by simp; omega⟩ | omega | exact ⟨rfl, rfl, by simp only [List.length_map, List.length_append, List.length_cons, List.length_nil]; omega⟩ | exact ⟨rfl, rfl, by simp; omega⟩ | exact ⟨rfl, rfl, by omega⟩ | exact ⟨rfl, by simp; omega⟩ | exact id | (intro h; simp [h]; done) | ((repeat (first | exact trivial | exact rfl | apply And.intro)); done) | (simp; omega) | (refine ⟨?_, ?_, ?_⟩ <;> first | omega | (simp; done) | (simp; omega)) | exact hc0 | exact ⟨hc0, hc0⟩ | exact ⟨hc0, hc0, hc0⟩ | (simp only [Bool.and_eq_true] at hc0; simp [hc0]; done) | (simp_all; done))))
                  | ((first | with_reducible apply DrawR.go0 | with_reducible apply KerB.mk); (focus kernel_rfl))
                  | (first | with_reducible apply ends_ret | with_reducible apply ends_norm | with_reducible apply Halt'.mk)
                  | ((with_reducible apply CondD.mk) <;> intro hb <;> (try simp only [SPLT] at hb) <;> (try first | contradiction | exact absurd hb (by assumption) | exact absurd (by assumption) hb | (exfalso; omega))))
              all_goals (try exact (false : Bool))
              refine ⟨km + 1, ⟨by omega, hrv⟩, by omega, ?_⟩
              (conv => whnf)
              refine ⟨?_, by rfl⟩
              repeat' ((conv => whnf); first | exact DLes.nil | with_reducible exact DLe.refl _ | exact DLe.any _ | with_reducible apply DLes.cons | exact DLe.refl _ | exact dle_int (by omega) | exact dle_nil rfl | exact DLe.own _ _)
            · have hlv := (List.getElem?_eq_some_iff.1 hxv).1
              rw [any_drop hxv] at hrv
              repeat' (
                (conv => whnf)
                first
                  | ((with_reducible apply DrawI.at 27 idl31_6); (focus exact rfl); (focus kernel_rfl))
                  | ((with_reducible apply DrawI.at 56 idl31_14); (focus exact rfl); (focus kernel_rfl))
                  | with_reducible apply ExE.go
                  | ((with_reducible apply EqF.mk); (focus exact rfl))
                  | with_reducible apply AndI.mk
                  | with_reducible exact trivial
                  | ((try ((first | with_reducible apply NumE.go | with_reducible apply IdxE.go | with_reducible apply TextE.go | with_reducible apply LookE.go | with_reducible apply CallE.go); (conv => whnf))); (with_reducible apply SideD.mk); (focus ((first | (intro hc; have hc0 := hc; (try simp only [SPLT] at hc); (try refine And.intro (by first | exact hc0 | exact ⟨hc0, hc0⟩ | exact ⟨hc0, hc0, hc0⟩) ?_)) | skip); first | exact idx_nat (by assumption) | exact idx_some (by omega) (by assumption) | exact idx_eq (by assumption) (by omega) | ((try apply givesl); (focus (((first | apply gives_go (turns8_sem l hl ho) | apply gives_go (some_sem _ _ _) | apply gives_go (find8_sem _ _ _ _)); (focus (first | exact DLes.refl _ | (repeat (first | exact DLes.nil | ((apply DLes.cons); (focus (first | exact DLe.refl _ | exact DLe.own _ _ | exact DLe.nil _ _ | exact DLe.any _))))))); (focus exact rfl); (all_goals (first | exact rfl | assumption | omega | (simp; omega) | (simp; done)))))); (all_goals exact rfl)) | exact IntWalk.i64_in _ (by omega) | exact IntWalk.u8_in _ (by omega) | exact IntWalk.u64_in _ (by omega) | exact IntWalk.i32_in _ (by omega) | exact rfl | exact ⟨by omega, rfl⟩ | exact ⟨rfl, rfl⟩ | assumption | exact ⟨by omega, by omega⟩ | exact ⟨by omega, by simp; omega⟩ | omega | exact ⟨rfl, rfl, by simp only [List.length_map, List.length_append, List.length_cons, List.length_nil]; omega⟩ | exact ⟨rfl, rfl, by simp; omega⟩ | exact ⟨rfl, rfl, by omega⟩ | exact ⟨rfl, by simp; omega⟩ | exact id | (intro h; simp [h]; done) | ((repeat (first | exact trivial | exact rfl | apply And.intro)); done) | (simp; omega) | (refine ⟨?_, ?_, ?_⟩ <;> first | omega | (simp; done) | (simp; omega)) | exact hc0 | exact ⟨hc0, hc0⟩ | exact ⟨hc0, hc0, hc0⟩ | (simp only [Bool.and_eq_true] at hc0; simp [hc0]; done) | (simp_all; done))))
                  | ((first | with_reducible apply DrawR.go0 | with_reducible apply KerB.mk); (focus kernel_rfl))
                  | (first | with_reducible apply ends_ret | with_reducible apply ends_norm | with_reducible apply Halt'.mk)
                  | ((with_reducible apply CondD.mk) <;> intro hb <;> (try simp only [SPLT] at hb) <;> (try first | contradiction | exact absurd hb (by assumption) | exact absurd (by assumption) hb | (exfalso; omega))))
              all_goals (try exact (false : Bool))
              have hdl : (turnsN l ++ [a.first]).length = (turnsN l).length + 1 := by simp
              rw [hitV, Bool.or_assoc] at hrv
              generalize hds : turnsN l ++ [a.first] = ds at *
              refine ht_down [61] ?_
              conv => whnf
              refine loop_go (M := fun t => mem t [5000006, 5000014, 1000052, 1000053]) hT hM (fun k : Nat => [(63, .int .i64 k), (61, .sl 1 1 (ds.map iR)), (62, .int .i64 ds.length)]) (fun k => k ≤ ds.length ∧ or ((ds.drop k).any (hitB l i a m v)) (or ((vs.drop (kv + 1)).any (hitV l i a m)) ((ms.drop (km + 1)).any (hitM l i a))) = foundA l i a) (fun k => ds.length - k) (0) ?_ ?_ ?_
              · (conv => whnf)
                refine ⟨?_, by rfl⟩
                repeat' ((conv => whnf); first | exact DLes.nil | with_reducible exact DLe.refl _ | exact DLe.any _ | with_reducible apply DLes.cons | exact DLe.refl _ | exact dle_int (by omega) | exact dle_nil rfl | exact DLe.own _ _ | (exact dle_sl (by rw [← hds, List.map_append]; rfl)) | (exact dle_int (by rw [← hds]; simp)))
              · exact ⟨Nat.zero_le _, hrv⟩
              · rintro kd ⟨hkd, hrd⟩
                rcases hxd : ds[kd]? with _ | d
                · have hk' : kd = ds.length := by have := List.getElem?_eq_none_iff.1 hxd; omega
                  subst hk'
                  rw [List.drop_length, List.any_nil, Bool.false_or] at hrd
                  repeat' (
                    (conv => whnf)
                    first
                      | ((with_reducible apply DrawI.at 27 idl31_6); (focus exact rfl); (focus kernel_rfl))
                      | ((with_reducible apply DrawI.at 56 idl31_14); (focus exact rfl); (focus kernel_rfl))
                      | with_reducible apply ExE.go
                      | ((with_reducible apply EqF.mk); (focus exact rfl))
                      | with_reducible apply AndI.mk
                      | with_reducible exact trivial
                      | ((try ((first | with_reducible apply NumE.go | with_reducible apply IdxE.go | with_reducible apply TextE.go | with_reducible apply LookE.go | with_reducible apply CallE.go); (conv => whnf))); (with_reducible apply SideD.mk); (focus ((first | (intro hc; have hc0 := hc; (try simp only [SPLT] at hc); (try refine And.intro (by first | exact hc0 | exact ⟨hc0, hc0⟩ | exact ⟨hc0, hc0, hc0⟩) ?_)) | skip); first | exact idx_nat (by assumption) | exact idx_some (by omega) (by assumption) | exact idx_eq (by assumption) (by omega) | ((try apply givesl); (focus (((first | apply gives_go (some_sem _ _ _) | apply gives_go (turns8_sem _ _ _) | apply gives_go (find8_sem _ _ _ _)); (focus (first | exact DLes.refl _ | (repeat (first | exact DLes.nil | ((apply DLes.cons); (focus (first | exact DLe.refl _ | exact DLe.own _ _ | exact DLe.nil _ _ | exact DLe.any _))))))); (focus exact rfl); (all_goals (first | exact rfl | assumption | omega | (simp; omega) | (simp; done)))))); (all_goals exact rfl)) | exact IntWalk.i64_in _ (by omega) | exact IntWalk.u8_in _ (by omega) | exact IntWalk.u64_in _ (by omega) | exact IntWalk.i32_in _ (by omega) | exact rfl | exact ⟨by omega, rfl⟩ | exact ⟨rfl, rfl⟩ | assumption | exact ⟨by omega, by omega⟩ | exact ⟨by omega, by simp; omega⟩ | omega | exact ⟨rfl, rfl, by simp only [List.length_map, List.length_append, List.length_cons, List.length_nil]; omega⟩ | exact ⟨rfl, rfl, by simp; omega⟩ | exact ⟨rfl, rfl, by omega⟩ | exact ⟨rfl, by simp; omega⟩ | exact id | (intro h; simp [h]; done) | ((repeat (first | exact trivial | exact rfl | apply And.intro)); done) | (simp; omega) | (refine ⟨?_, ?_, ?_⟩ <;> first | omega | (simp; done) | (simp; omega)) | exact hc0 | exact ⟨hc0, hc0⟩ | exact ⟨hc0, hc0, hc0⟩ | (simp only [Bool.and_eq_true] at hc0; simp [hc0]; done) | (simp_all; done))))
                      | ((first | with_reducible apply DrawR.go0 | with_reducible apply KerB.mk); (focus kernel_rfl))
                      | (first | with_reducible apply ends_ret | with_reducible apply ends_norm | with_reducible apply Halt'.mk)
                      | ((with_reducible apply CondD.mk) <;> intro hb <;> (try simp only [SPLT] at hb) <;> (try first | contradiction | exact absurd hb (by assumption) | exact absurd (by assumption) hb | (exfalso; omega))))
                  all_goals (try exact (false : Bool))
                  refine ⟨kv + 1, ⟨by omega, hrd⟩, by omega, ?_⟩
                  (conv => whnf)
                  refine ⟨?_, by rfl⟩
                  repeat' ((conv => whnf); first | exact DLes.nil | with_reducible exact DLe.refl _ | exact DLe.any _ | with_reducible apply DLes.cons | exact DLe.refl _ | exact dle_int (by omega) | exact dle_nil rfl | exact DLe.own _ _)
                · have hld := (List.getElem?_eq_some_iff.1 hxd).1
                  rw [any_drop hxd] at hrd
                  repeat' (
                    (conv => whnf)
                    first
                      | ((with_reducible apply DrawI.at 27 idl31_6); (focus exact rfl); (focus kernel_rfl))
                      | ((with_reducible apply DrawI.at 56 idl31_14); (focus exact rfl); (focus kernel_rfl))
                      | with_reducible apply ExE.go
                      | ((with_reducible apply EqF.mk); (focus exact rfl))
                      | with_reducible apply AndI.mk
                      | with_reducible exact trivial
                      | ((try ((first | with_reducible apply NumE.go | with_reducible apply IdxE.go | with_reducible apply TextE.go | with_reducible apply LookE.go | with_reducible apply CallE.go); (conv => whnf))); (with_reducible apply SideD.mk); (focus ((first | (intro hc; have hc0 := hc; (try simp only [SPLT] at hc); (try refine And.intro (by first | exact hc0 | exact ⟨hc0, hc0⟩ | exact ⟨hc0, hc0, hc0⟩) ?_)) | skip); first | exact idx_nat (by assumption) | exact idx_some (by omega) (by assumption) | exact idx_eq (by assumption) (by omega) | ((try apply givesl); (focus (((first | apply gives_go (find8_sem l (a.cas m v d) hl ho) | apply gives_go (some_sem _ _ _) | apply gives_go (turns8_sem _ _ _)); (focus (first | exact DLes.refl _ | (repeat (first | exact DLes.nil | ((apply DLes.cons); (focus (first | exact DLe.refl _ | exact DLe.own _ _ | exact DLe.nil _ _ | exact DLe.any _))))))); (focus exact rfl); (all_goals (first | exact rfl | assumption | omega | (simp; omega) | (simp; done)))))); (all_goals exact rfl)) | exact IntWalk.i64_in _ (by omega) | exact IntWalk.u8_in _ (by omega) | exact IntWalk.u64_in _ (by omega) | exact IntWalk.i32_in _ (by omega) | exact rfl | exact ⟨by omega, rfl⟩ | exact ⟨rfl, rfl⟩ | assumption | exact ⟨by omega, by omega⟩ | exact ⟨by omega, by simp; omega⟩ | omega | exact ⟨rfl, rfl, by simp only [List.length_map, List.length_append, List.length_cons, List.length_nil]; omega⟩ | exact ⟨rfl, rfl, by simp; omega⟩ | exact ⟨rfl, rfl, by omega⟩ | exact ⟨rfl, by simp; omega⟩ | exact id | (intro h; simp [h]; done) | ((repeat (first | exact trivial | exact rfl | apply And.intro)); done) | (simp; omega) | (refine ⟨?_, ?_, ?_⟩ <;> first | omega | (simp; done) | (simp; omega)) | exact hc0 | exact ⟨hc0, hc0⟩ | exact ⟨hc0, hc0, hc0⟩ | (simp only [Bool.and_eq_true] at hc0; simp [hc0]; done) | (simp_all; done))))
                      | ((first | with_reducible apply DrawR.go0 | with_reducible apply KerB.mk); (focus kernel_rfl))
                      | (first | with_reducible apply ends_ret | with_reducible apply ends_norm | with_reducible apply Halt'.mk)
                      | ((with_reducible apply CondD.mk) <;> intro hb <;> (try simp only [SPLT] at hb) <;> (try first | contradiction | exact absurd hb (by assumption) | exact absurd (by assumption) hb | (exfalso; omega))))
                  all_goals (try exact (false : Bool))
                  · repeat' ((conv => whnf); first | exact trivial | with_reducible apply And.intro | with_reducible apply endsO_ret | with_reducible apply endsO_norm | exact DLes.nil | with_reducible exact DLe.refl _ | exact DLe.any _ | with_reducible apply DLes.cons | with_reducible exact rle_refl | exact rle_bool rfl | exact rle_int rfl | exact rle_nil rfl | exact rle_sl0 rfl)
                    all_goals (conv => whnf)
                    refine rle_bool ?_
                    rw [← hrd, show hitB l i a m v d = true by unfold hitB; simpa [and_assoc] using hb]
                    rfl
                  · have hb' : (m = [] ∨ v = []) ∨ ¬ findN l (a.cas m v d) = i := by simpa using hb
                    have hf' : hitB l i a m v d = false := by
                      rw [Bool.eq_false_iff]
                      intro h
                      simp only [hitB, Bool.and_eq_true, beq_iff_eq, Bool.not_eq_true', beq_eq_false_iff_ne] at h
                      rcases hb' with (e | e) | e
                      · exact h.1 e
                      · exact h.2.1 e
                      · exact e h.2.2
                    rw [hf', Bool.false_or] at hrd
                    refine ⟨kd + 1, ⟨by omega, hrd⟩, by omega, ?_⟩
                    (conv => whnf)
                    refine ⟨?_, by rfl⟩
                    repeat' ((conv => whnf); first | exact DLes.nil | with_reducible exact DLe.refl _ | exact DLe.any _ | with_reducible apply DLes.cons | exact DLe.refl _ | exact dle_int (by omega) | exact dle_nil rfl | exact DLe.own _ _)
    · have hlt := (List.getElem?_eq_some_iff.1 hx).1
      have e1 : msgsN (l.take (k + 1)) = msgsN (l.take k) ++ [x.msg] := by rw [take_at hx]; simp [msgsN]
      have e2 : versN (l.take (k + 1)) = versN (l.take k) ++ [x.ver] := by rw [take_at hx]; simp [versN]
      repeat' (
        (conv => whnf)
        first
          | ((with_reducible apply DrawI.at 27 idl31_6); (focus exact rfl); (focus kernel_rfl))
          | ((with_reducible apply DrawI.at 56 idl31_14); (focus exact rfl); (focus kernel_rfl))
          | with_reducible apply ExE.go
          | ((with_reducible apply EqF.mk); (focus exact rfl))
          | with_reducible apply AndI.mk
          | with_reducible exact trivial
          | ((try ((first | with_reducible apply NumE.go | with_reducible apply IdxE.go | with_reducible apply TextE.go | with_reducible apply LookE.go | with_reducible apply CallE.go); (conv => whnf))); (with_reducible apply SideD.mk); (focus ((first | (intro hc; have hc0 := hc; (try simp only [SPLT] at hc); (try refine And.intro (by first | exact hc0 | exact ⟨hc0, hc0⟩ | exact ⟨hc0, hc0, hc0⟩) ?_)) | skip); first | exact idx_nat (by assumption) | exact idx_some (by omega) (by assumption) | exact idx_eq (by assumption) (by omega) | ((try apply givesl); (focus (((first | apply gives_go (some_sem _ _ _) | apply gives_go (turns8_sem _ _ _) | apply gives_go (find8_sem _ _ _ _)); (focus (first | exact DLes.refl _ | (repeat (first | exact DLes.nil | ((apply DLes.cons); (focus (first | exact DLe.refl _ | exact DLe.own _ _ | exact DLe.nil _ _ | exact DLe.any _))))))); (focus exact rfl); (all_goals (first | exact rfl | assumption | omega | (simp; omega) | (simp; done)))))); (all_goals exact rfl)) | exact IntWalk.i64_in _ (by omega) | exact IntWalk.u8_in _ (by omega) | exact IntWalk.u64_in _ (by omega) | exact IntWalk.i32_in _ (by omega) | exact rfl | exact ⟨by omega, rfl⟩ | exact ⟨rfl, rfl⟩ | assumption | exact ⟨by omega, by omega⟩ | exact ⟨by omega, by simp; omega⟩ | omega | exact ⟨rfl, rfl, by simp only [List.length_map, List.length_append, List.length_cons, List.length_nil]; omega⟩ | exact ⟨rfl, rfl, by simp; omega⟩ | exact ⟨rfl, rfl, by omega⟩ | exact ⟨rfl, by simp; omega⟩ | exact id | (intro h; simp [h]; done) | ((repeat (first | exact trivial | exact rfl | apply And.intro)); done) | (simp; omega) | (refine ⟨?_, ?_, ?_⟩ <;> first | omega | (simp; done) | (simp; omega)) | exact hc0 | exact ⟨hc0, hc0⟩ | exact ⟨hc0, hc0, hc0⟩ | (simp only [Bool.and_eq_true] at hc0; simp [hc0]; done) | (simp_all; done))))
          | ((first | with_reducible apply DrawR.go0 | with_reducible apply KerB.mk); (focus kernel_rfl))
          | (first | with_reducible apply ends_ret | with_reducible apply ends_norm | with_reducible apply Halt'.mk)
          | ((with_reducible apply CondD.mk) <;> intro hb <;> (try simp only [SPLT] at hb) <;> (try first | contradiction | exact absurd hb (by assumption) | exact absurd (by assumption) hb | (exfalso; omega))))
      all_goals (try exact (false : Bool))
      refine ⟨k + 1, by omega, by omega, ?_⟩
      (conv => whnf)
      refine ⟨?_, by rfl⟩
      repeat' ((conv => whnf); first | exact DLes.nil | with_reducible exact DLe.refl _ | exact DLe.any _ | with_reducible apply DLes.cons | exact DLe.refl _ | exact dle_int (by omega) | exact dle_nil rfl | exact DLe.own _ _ | (exact dle_sl (by rw [e1, List.map_append]; rfl)) | (exact dle_sl (by rw [e2, List.map_append]; rfl)))
end Go.Proofs.YthbhjladfniboaaGreatDoor
