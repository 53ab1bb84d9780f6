/- Names, bytes, days: the walks. PartnersMatchSpec: the walks. Agreements and cases: the walks of what has no loop. Agreements: the plain laws. Days on which what applies may change: the plain law. Partners in order: looking one up by halves. Agreements: looking up partners, the order, finding. Agreements that no case finds: the plain law. -/
import Derived.Test.YthbhjladfniboaaDoorZ8
import Derived.Test.YthbhjladfniboaaDoorZ9
namespace Go.Proofs.YthbhjladfniboaaDoor
set_option linter.unusedSimpArgs false
set_option linter.unusedVariables false
open Go.RowKit
set_option maxRecDepth 100000
set_option maxHeartbeats 400000

theorem sem_vals {P : Program} {f : Nat} [e : Enters P f] {ds : List D} {us : List Value} {d : D} {v : Value} (hv : valsOf ds = some us) (hc : d.calm = true) (hz : ∀ lim w, Fz lim w v d) (h : ∀ w, Calls P f us.toArray w fun e w' => e = .returned v ∧ Ext w w') : Sem P f ds d :=
  ⟨e, hc, fun S w vs hw hl hr => by
    obtain rfl := vals_eq (q := fun i => .slot i) hv hl hr
    exact (h w).mono fun e w' ⟨he, hx⟩ => ⟨v, S, he, (PT.ext' hw hx).wf, (PT.ext' hw hx).trans, .fz (hz _ _)⟩⟩
theorem dropWhile_nil {α : Type} (p : α → Bool) (l : List α) : l.dropWhile p = [] ↔ l.all p = true := by
  induction l with
  | nil => simp
  | cons a l ih => simp only [List.dropWhile_cons, List.all_cons]; split <;> simp_all
theorem trimS_nil_iff (l cs : List UInt8) : Lib.trimS l cs = [] ↔ l.all (cs.contains ·) = true := by
  unfold Lib.trimS Lib.trimLeftS
  rw [dropWhile_nil]
  constructor
  · intro h
    unfold Lib.trimRightS at h
    rw [List.all_reverse] at h
    have key : ∀ m : List UInt8, (m.dropWhile (cs.contains ·)).all (cs.contains ·) = true → m.all (cs.contains ·) = true := by
      intro m
      induction m with
      | nil => simp
      | cons a m ih =>
        intro h
        simp only [List.dropWhile_cons] at h
        split at h
        · rename_i ha
          rw [List.all_cons, ha, ih h]
          rfl
        · exact h
    have := key l.reverse h
    rwa [List.all_reverse] at this
  · intro h
    unfold Lib.trimRightS
    rw [(dropWhile_nil _ _).2 (by rw [List.all_reverse]; exact h)]
    rfl
theorem trim_sem (s cs : Str) (hs : s.length ≤ 9223372036854775807) (hcs : cs.length < 4294967281) (ha : cs.all (fun b => decide (b.toNat < 128)) = true) : Sem Tryd.prog 62 [.str s, .str cs] (.str (Lib.trimS s cs)) :=
  sem_vals (us := [.string ⟨s.toArray⟩, .string ⟨cs.toArray⟩]) (v := .string ⟨(Lib.trimS s cs).toArray⟩) rfl rfl (fun _ _ => .str _) fun w =>
    Any.strings_Trim_laid Tryd.lays160 (by kernel_rfl) ⟨s.toArray⟩ ⟨cs.toArray⟩ w (by show s.toArray.size ≤ _; simp; omega) (by show cs.toArray.size < _; simpa using hcs) (ascii_of_all (by simpa using ha))
def nameSet : Str := [97, 98, 99, 100, 101, 102, 103, 104, 105, 106, 107, 108, 109, 110, 111, 112, 113, 114, 115, 116, 117, 118, 119, 120, 121, 122, 48, 49, 50, 51, 52, 53, 54, 55, 56, 57, 45]
theorem nameSet_contains (c : UInt8) : nameSet.contains c = nameByte c := by
  have : ∀ n : Fin 256, nameSet.contains (UInt8.ofNat n.val) = nameByte (UInt8.ofNat n.val) := by decide +kernel
  have h := this ⟨c.toNat, c.toNat_lt⟩
  simpa using h
theorem trim_name (s : Str) : (Lib.trimS s nameSet == []) = s.all nameByte := by
  have h1 := trimS_nil_iff s nameSet
  have h2 : s.all (nameSet.contains ·) = s.all nameByte := by
    congr 1
    exact funext nameSet_contains
  rw [h2] at h1
  rw [Bool.eq_iff_iff, beq_iff_eq, h1]
theorem isNameB_at (s : Str) (h : 0 < s.length) : isNameB s = (decide (s.length ≤ 40) && (decide (97 ≤ (s[0]).toNat) && decide ((s[0]).toNat ≤ 122)) && s.all nameByte) := by
  cases s with
  | nil => simp at h
  | cons c t => simp only [isNameB, nameHead, List.length_cons, List.getElem_cons_zero]; congr 2
theorem isName_sem (s : Str) (hs : s.Ok) : Sem Tryd.prog 98 [.str s] (.bool (isNameB s)) := by
  unfold Str.Ok at hs
  rcases Nat.eq_zero_or_pos s.length with h0 | h0
  · obtain rfl : s = [] := List.eq_nil_of_length_eq_zero h0
    refine sem_intro (M := fun t => mem t []) hT hM Tryd.func98 inferInstance rfl rfl rfl rfl rfl rfl ?_
    repeat' (
      (conv => whnf)
      first
        | ((with_reducible apply NumE.go); (conv => whnf); (with_reducible apply SideD.mk); (focus ((first | (intro hc; have hc0 := hc; (try simp only [SPLT] at hc); (try refine And.intro (by first | exact hc0 | exact ⟨hc0, hc0⟩ | exact ⟨hc0, hc0, hc0⟩) ?_)) | skip); first | exact shr_one _ | exact IntWalk.i64_in _ (by omega) | exact IntWalk.u8_in _ (by omega) | exact ⟨by omega, IntWalk.i64_quo _ _ ⟨by omega, by omega, by omega⟩⟩ | exact ⟨by omega, IntWalk.rem_in _ _ (by omega)⟩ | exact IntWalk.u64_in _ (by omega) | exact IntWalk.i32_in _ (by omega) | exact rfl | exact ⟨by omega, rfl⟩ | exact ⟨by omega, (by decide), IntWalk.i64_in _ (by omega)⟩ | exact ⟨by omega, (by decide), rfl⟩ | exact ⟨by omega, (by show _ ≤ (64 : Int); omega), rfl⟩ | exact hc0 | exact ⟨hc0, hc0⟩ | exact ⟨hc0, hc0, hc0⟩ | (simp only [Bool.and_eq_true] at hc0; simp [hc0]; done) | (simp_all; done))))
        | ((with_reducible apply IdxE.go); (conv => whnf); (with_reducible apply SideD.mk); (focus ((first | (intro hc; have hc0 := hc; (try simp only [SPLT] at hc); (try refine And.intro (by first | exact hc0 | exact ⟨hc0, hc0⟩ | exact ⟨hc0, hc0, hc0⟩) ?_)) | skip); first | exact idx_nat (by assumption) | exact idx_some (by omega) (by assumption) | exact idx_eq (by assumption) (by omega) | exact hc0 | exact ⟨hc0, hc0⟩ | exact ⟨hc0, hc0, hc0⟩ | (simp only [Bool.and_eq_true] at hc0; simp [hc0]; done) | (simp_all; done))))
        | ((with_reducible apply TextE.go); (conv => whnf); (with_reducible apply SideD.mk); (focus ((first | (intro hc; have hc0 := hc; (try simp only [SPLT] at hc); (try refine And.intro (by first | exact hc0 | exact ⟨hc0, hc0⟩ | exact ⟨hc0, hc0, hc0⟩) ?_)) | skip); first | exact rfl | assumption | exact hc0 | exact ⟨hc0, hc0⟩ | exact ⟨hc0, hc0, hc0⟩ | (simp only [Bool.and_eq_true] at hc0; simp [hc0]; done) | (simp_all; done))))
        | ((with_reducible apply LookE.go); (conv => whnf); (with_reducible apply SideD.mk); (focus ((first | (intro hc; have hc0 := hc; (try simp only [SPLT] at hc); (try refine And.intro (by first | exact hc0 | exact ⟨hc0, hc0⟩ | exact ⟨hc0, hc0, hc0⟩) ?_)) | skip); first | exact ⟨rfl, rfl⟩ | exact rfl | exact hc0 | exact ⟨hc0, hc0⟩ | exact ⟨hc0, hc0, hc0⟩ | (simp only [Bool.and_eq_true] at hc0; simp [hc0]; done) | (simp_all; done))))
        | ((with_reducible apply CallE.go); (conv => whnf); (with_reducible apply SideD.mk); (focus ((first | (intro hc; have hc0 := hc; (try simp only [SPLT] at hc); (try refine And.intro (by first | exact hc0 | exact ⟨hc0, hc0⟩ | exact ⟨hc0, hc0, hc0⟩) ?_)) | skip); first | ((try apply givesl); (focus (first | ((apply gives_go (trim_sem _ nameSet hs (by decide) (by decide))); (focus (first | exact DLes.refl _ | (repeat (first | exact DLes.nil | ((apply DLes.cons); (focus (first | exact DLe.refl _ | exact DLe.own _ _ | exact DLe.nil _ _ | exact DLe.any _))))))); (focus exact rfl); (all_goals (first | exact rfl | assumption | omega | (simp; omega) | (simp; done)))) | ((apply gives_go (trim_sem _ _ _ _ _)); (focus (first | exact DLes.refl _ | (repeat (first | exact DLes.nil | ((apply DLes.cons); (focus (first | exact DLe.refl _ | exact DLe.own _ _ | exact DLe.nil _ _ | exact DLe.any _))))))); (focus exact rfl); (all_goals (first | exact rfl | assumption | omega | (simp; omega) | (simp; done)))))); (all_goals exact rfl)) | exact hc0 | exact ⟨hc0, hc0⟩ | exact ⟨hc0, hc0, hc0⟩ | (simp only [Bool.and_eq_true] at hc0; simp [hc0]; done) | (simp_all; done))))
        | ((with_reducible apply CallO.go); (conv => whnf); (with_reducible apply SideD.mk); (focus (first | fail)))
        | ((with_reducible apply SideD.mk); (focus ((first | (intro hc; have hc0 := hc; (try simp only [SPLT] at hc); (try refine And.intro (by first | exact hc0 | exact ⟨hc0, hc0⟩ | exact ⟨hc0, hc0, hc0⟩) ?_)) | skip); first | exact ⟨by omega, by omega⟩ | omega | exact ⟨rfl, rfl, by simp only [List.length_map, List.length_append, List.length_cons, List.length_nil]; omega⟩ | exact ⟨rfl, rfl, by simp; omega⟩ | exact ⟨rfl, rfl, by omega⟩ | exact ⟨rfl, by simp; omega⟩ | exact id | (intro h; simp [h]; done) | ((repeat (first | exact trivial | exact rfl | apply And.intro)); done) | (simp; omega) | (refine ⟨?_, ?_, ?_⟩ <;> (simp; omega)) | (refine ⟨?_, ?_, ?_⟩ <;> first | omega | (simp; done) | (simp; omega)) | exact hc0 | exact ⟨hc0, hc0⟩ | exact ⟨hc0, hc0, hc0⟩ | (simp only [Bool.and_eq_true] at hc0; simp [hc0]; done) | (simp_all; done))))
        | ((with_reducible apply DrawR.go0); (focus kernel_rfl))
        | ((with_reducible apply KerB.mk); (focus kernel_rfl))
        | with_reducible apply ends_ret
        | with_reducible apply ends_norm
        | with_reducible apply Halt'.mk
        | ((with_reducible apply CondD.mk) <;> intro hb <;> (try simp only [SPLT] at hb) <;> (try first | contradiction | exact absurd hb (by assumption) | exact absurd (by assumption) hb | (exfalso; omega))))
    all_goals (try exact (false : Bool))
    repeat' ((conv => whnf); first | exact trivial | with_reducible apply And.intro | with_reducible apply endsO_ret | with_reducible apply endsO_norm | exact DLes.nil | with_reducible exact DLe.refl _ | exact DLe.any _ | with_reducible apply DLes.cons | with_reducible exact rle_refl | exact rle_bool rfl | exact rle_int rfl | exact rle_nil rfl | exact rle_sl0 rfl)
    all_goals (conv => whnf)
  · have hn := isNameB_at s h0
    obtain ⟨c, hc⟩ : ∃ c, s[0]? = some c := ⟨s[0], by simp⟩
    have hc1 : s[0] = c := (List.getElem?_eq_some_iff.1 hc).2
    rw [hc1] at hn
    refine sem_intro (M := fun t => mem t []) hT hM Tryd.func98 inferInstance rfl rfl rfl rfl rfl rfl ?_
    repeat' (
      (conv => whnf)
      first
        | ((with_reducible apply NumE.go); (conv => whnf); (with_reducible apply SideD.mk); (focus ((first | (intro hc; have hc0 := hc; (try simp only [SPLT] at hc); (try refine And.intro (by first | exact hc0 | exact ⟨hc0, hc0⟩ | exact ⟨hc0, hc0, hc0⟩) ?_)) | skip); first | exact shr_one _ | exact IntWalk.i64_in _ (by omega) | exact IntWalk.u8_in _ (by omega) | exact ⟨by omega, IntWalk.i64_quo _ _ ⟨by omega, by omega, by omega⟩⟩ | exact ⟨by omega, IntWalk.rem_in _ _ (by omega)⟩ | exact IntWalk.u64_in _ (by omega) | exact IntWalk.i32_in _ (by omega) | exact rfl | exact ⟨by omega, rfl⟩ | exact ⟨by omega, (by decide), IntWalk.i64_in _ (by omega)⟩ | exact ⟨by omega, (by decide), rfl⟩ | exact ⟨by omega, (by show _ ≤ (64 : Int); omega), rfl⟩ | exact hc0 | exact ⟨hc0, hc0⟩ | exact ⟨hc0, hc0, hc0⟩ | (simp only [Bool.and_eq_true] at hc0; simp [hc0]; done) | (simp_all; done))))
        | ((with_reducible apply IdxE.go); (conv => whnf); (with_reducible apply SideD.mk); (focus ((first | (intro hc; have hc0 := hc; (try simp only [SPLT] at hc); (try refine And.intro (by first | exact hc0 | exact ⟨hc0, hc0⟩ | exact ⟨hc0, hc0, hc0⟩) ?_)) | skip); first | exact idx_nat (by assumption) | exact idx_some (by omega) (by assumption) | exact idx_eq (by assumption) (by omega) | exact hc0 | exact ⟨hc0, hc0⟩ | exact ⟨hc0, hc0, hc0⟩ | (simp only [Bool.and_eq_true] at hc0; simp [hc0]; done) | (simp_all; done))))
        | ((with_reducible apply TextE.go); (conv => whnf); (with_reducible apply SideD.mk); (focus ((first | (intro hc; have hc0 := hc; (try simp only [SPLT] at hc); (try refine And.intro (by first | exact hc0 | exact ⟨hc0, hc0⟩ | exact ⟨hc0, hc0, hc0⟩) ?_)) | skip); first | exact rfl | assumption | exact hc0 | exact ⟨hc0, hc0⟩ | exact ⟨hc0, hc0, hc0⟩ | (simp only [Bool.and_eq_true] at hc0; simp [hc0]; done) | (simp_all; done))))
        | ((with_reducible apply LookE.go); (conv => whnf); (with_reducible apply SideD.mk); (focus ((first | (intro hc; have hc0 := hc; (try simp only [SPLT] at hc); (try refine And.intro (by first | exact hc0 | exact ⟨hc0, hc0⟩ | exact ⟨hc0, hc0, hc0⟩) ?_)) | skip); first | exact ⟨rfl, rfl⟩ | exact rfl | exact hc0 | exact ⟨hc0, hc0⟩ | exact ⟨hc0, hc0, hc0⟩ | (simp only [Bool.and_eq_true] at hc0; simp [hc0]; done) | (simp_all; done))))
        | ((with_reducible apply CallE.go); (conv => whnf); (with_reducible apply SideD.mk); (focus ((first | (intro hc; have hc0 := hc; (try simp only [SPLT] at hc); (try refine And.intro (by first | exact hc0 | exact ⟨hc0, hc0⟩ | exact ⟨hc0, hc0, hc0⟩) ?_)) | skip); first | ((try apply givesl); (focus (first | ((apply gives_go (trim_sem _ nameSet hs (by decide) (by decide))); (focus (first | exact DLes.refl _ | (repeat (first | exact DLes.nil | ((apply DLes.cons); (focus (first | exact DLe.refl _ | exact DLe.own _ _ | exact DLe.nil _ _ | exact DLe.any _))))))); (focus exact rfl); (all_goals (first | exact rfl | assumption | omega | (simp; omega) | (simp; done)))) | ((apply gives_go (trim_sem _ _ _ _ _)); (focus (first | exact DLes.refl _ | (repeat (first | exact DLes.nil | ((apply DLes.cons); (focus (first | exact DLe.refl _ | exact DLe.own _ _ | exact DLe.nil _ _ | exact DLe.any _))))))); (focus exact rfl); (all_goals (first | exact rfl | assumption | omega | (simp; omega) | (simp; done)))))); (all_goals exact rfl)) | exact hc0 | exact ⟨hc0, hc0⟩ | exact ⟨hc0, hc0, hc0⟩ | (simp only [Bool.and_eq_true] at hc0; simp [hc0]; done) | (simp_all; done))))
        | ((with_reducible apply CallO.go); (conv => whnf); (with_reducible apply SideD.mk); (focus (first | fail)))
        | ((with_reducible apply SideD.mk); (focus ((first | (intro hc; have hc0 := hc; (try simp only [SPLT] at hc); (try refine And.intro (by first | exact hc0 | exact ⟨hc0, hc0⟩ | exact ⟨hc0, hc0, hc0⟩) ?_)) | skip); first | exact ⟨by omega, by omega⟩ | omega | exact ⟨rfl, rfl, by simp only [List.length_map, List.length_append, List.length_cons, List.length_nil]; omega⟩ | exact ⟨rfl, rfl, by simp; omega⟩ | exact ⟨rfl, rfl, by omega⟩ | exact ⟨rfl, by simp; omega⟩ | exact id | (intro h; simp [h]; done) | ((repeat (first | exact trivial | exact rfl | apply And.intro)); done) | (simp; omega) | (refine ⟨?_, ?_, ?_⟩ <;> (simp; omega)) | (refine ⟨?_, ?_, ?_⟩ <;> first | omega | (simp; done) | (simp; omega)) | exact hc0 | exact ⟨hc0, hc0⟩ | exact ⟨hc0, hc0, hc0⟩ | (simp only [Bool.and_eq_true] at hc0; simp [hc0]; done) | (simp_all; done))))
        | ((with_reducible apply DrawR.go0); (focus kernel_rfl))
        | ((with_reducible apply KerB.mk); (focus kernel_rfl))
        | with_reducible apply ends_ret
        | with_reducible apply ends_norm
        | with_reducible apply Halt'.mk
        | ((with_reducible apply CondD.mk) <;> intro hb <;> (try simp only [SPLT] at hb) <;> (try first | contradiction | exact absurd hb (by assumption) | exact absurd (by assumption) hb | (exfalso; omega))))
    all_goals (try exact (false : Bool))
    · repeat' ((conv => whnf); first | exact trivial | with_reducible apply And.intro | with_reducible apply endsO_ret | with_reducible apply endsO_norm | exact DLes.nil | with_reducible exact DLe.refl _ | exact DLe.any _ | with_reducible apply DLes.cons | with_reducible exact rle_refl | exact rle_bool rfl | exact rle_int rfl | exact rle_nil rfl | exact rle_sl0 rfl)
      all_goals (conv => whnf)
      refine rle_bool ?_
      rw [hn]
      simp [hc] at hb
      simp
      omega
    · repeat' ((conv => whnf); first | exact trivial | with_reducible apply And.intro | with_reducible apply endsO_ret | with_reducible apply endsO_norm | exact DLes.nil | with_reducible exact DLe.refl _ | exact DLe.any _ | with_reducible apply DLes.cons | with_reducible exact rle_refl | exact rle_bool rfl | exact rle_int rfl | exact rle_nil rfl | exact rle_sl0 rfl)
      all_goals (conv => whnf)
      refine rle_bool ?_
      have e := trim_name s
      rw [hn]
      simp [hc] at hb
      rw [decide_eq_true (show s.length ≤ 40 by omega), decide_eq_true (show 97 ≤ c.toNat by omega), decide_eq_true (show c.toNat ≤ 122 by omega)]
      exact e
theorem outside_sem (n a b : Int) : Sem Tryd.prog 55 [.int .i64 n, .int .i64 a, .int .i64 b] (.bool (decide (n < a) || decide (b < n))) := by
  refine sem_intro (M := fun t => mem t []) hT hM Tryd.func55 inferInstance rfl rfl rfl rfl rfl rfl ?_
  repeat' (
    (conv => whnf)
    first
      | ((with_reducible apply NumE.go); (conv => whnf); (with_reducible apply SideD.mk); (focus ((first | (intro hc; have hc0 := hc; (try simp only [SPLT] at hc); (try refine And.intro (by first | exact hc0 | exact ⟨hc0, hc0⟩ | exact ⟨hc0, hc0, hc0⟩) ?_)) | skip); first | exact shr_one _ | exact IntWalk.i64_in _ (by omega) | exact IntWalk.u8_in _ (by omega) | exact ⟨by omega, IntWalk.i64_quo _ _ ⟨by omega, by omega, by omega⟩⟩ | exact ⟨by omega, IntWalk.rem_in _ _ (by omega)⟩ | exact IntWalk.u64_in _ (by omega) | exact IntWalk.i32_in _ (by omega) | exact rfl | exact ⟨by omega, rfl⟩ | exact ⟨by omega, (by decide), IntWalk.i64_in _ (by omega)⟩ | exact ⟨by omega, (by decide), rfl⟩ | exact ⟨by omega, (by show _ ≤ (64 : Int); omega), rfl⟩ | exact hc0 | exact ⟨hc0, hc0⟩ | exact ⟨hc0, hc0, hc0⟩ | (simp only [Bool.and_eq_true] at hc0; simp [hc0]; done) | (simp_all; done))))
      | ((with_reducible apply IdxE.go); (conv => whnf); (with_reducible apply SideD.mk); (focus ((first | (intro hc; have hc0 := hc; (try simp only [SPLT] at hc); (try refine And.intro (by first | exact hc0 | exact ⟨hc0, hc0⟩ | exact ⟨hc0, hc0, hc0⟩) ?_)) | skip); first | exact idx_nat (by assumption) | exact idx_some (by omega) (by assumption) | exact idx_eq (by assumption) (by omega) | exact hc0 | exact ⟨hc0, hc0⟩ | exact ⟨hc0, hc0, hc0⟩ | (simp only [Bool.and_eq_true] at hc0; simp [hc0]; done) | (simp_all; done))))
      | ((with_reducible apply TextE.go); (conv => whnf); (with_reducible apply SideD.mk); (focus ((first | (intro hc; have hc0 := hc; (try simp only [SPLT] at hc); (try refine And.intro (by first | exact hc0 | exact ⟨hc0, hc0⟩ | exact ⟨hc0, hc0, hc0⟩) ?_)) | skip); first | exact rfl | assumption | exact hc0 | exact ⟨hc0, hc0⟩ | exact ⟨hc0, hc0, hc0⟩ | (simp only [Bool.and_eq_true] at hc0; simp [hc0]; done) | (simp_all; done))))
      | ((with_reducible apply LookE.go); (conv => whnf); (with_reducible apply SideD.mk); (focus ((first | (intro hc; have hc0 := hc; (try simp only [SPLT] at hc); (try refine And.intro (by first | exact hc0 | exact ⟨hc0, hc0⟩ | exact ⟨hc0, hc0, hc0⟩) ?_)) | skip); first | exact ⟨rfl, rfl⟩ | exact rfl | exact hc0 | exact ⟨hc0, hc0⟩ | exact ⟨hc0, hc0, hc0⟩ | (simp only [Bool.and_eq_true] at hc0; simp [hc0]; done) | (simp_all; done))))
      | ((with_reducible apply CallE.go); (conv => whnf); (with_reducible apply SideD.mk); (focus ((first | (intro hc; have hc0 := hc; (try simp only [SPLT] at hc); (try refine And.intro (by first | exact hc0 | exact ⟨hc0, hc0⟩ | exact ⟨hc0, hc0, hc0⟩) ?_)) | skip); first | ((try apply givesl); (focus (first | fail)); (all_goals exact rfl)) | exact hc0 | exact ⟨hc0, hc0⟩ | exact ⟨hc0, hc0, hc0⟩ | (simp only [Bool.and_eq_true] at hc0; simp [hc0]; done) | (simp_all; done))))
      | ((with_reducible apply CallO.go); (conv => whnf); (with_reducible apply SideD.mk); (focus (first | fail)))
      | ((with_reducible apply SideD.mk); (focus ((first | (intro hc; have hc0 := hc; (try simp only [SPLT] at hc); (try refine And.intro (by first | exact hc0 | exact ⟨hc0, hc0⟩ | exact ⟨hc0, hc0, hc0⟩) ?_)) | skip); first | exact ⟨by omega, by omega⟩ | omega | exact ⟨rfl, rfl, by simp only [List.length_map, List.length_append, List.length_cons, List.length_nil]; omega⟩ | exact ⟨rfl, rfl, by simp; omega⟩ | exact ⟨rfl, rfl, by omega⟩ | exact ⟨rfl, by simp; omega⟩ | exact id | (intro h; simp [h]; done) | ((repeat (first | exact trivial | exact rfl | apply And.intro)); done) | (simp; omega) | (refine ⟨?_, ?_, ?_⟩ <;> (simp; omega)) | (refine ⟨?_, ?_, ?_⟩ <;> first | omega | (simp; done) | (simp; omega)) | exact hc0 | exact ⟨hc0, hc0⟩ | exact ⟨hc0, hc0, hc0⟩ | (simp only [Bool.and_eq_true] at hc0; simp [hc0]; done) | (simp_all; done))))
      | ((with_reducible apply DrawR.go0); (focus kernel_rfl))
      | ((with_reducible apply KerB.mk); (focus kernel_rfl))
      | with_reducible apply ends_ret
      | with_reducible apply ends_norm
      | with_reducible apply Halt'.mk
      | ((with_reducible apply CondD.mk) <;> intro hb <;> (try simp only [SPLT] at hb) <;> (try first | contradiction | exact absurd hb (by assumption) | exact absurd (by assumption) hb | (exfalso; omega))))
  all_goals (try exact (false : Bool))
  repeat' ((conv => whnf); first | exact trivial | with_reducible apply And.intro | with_reducible apply endsO_ret | with_reducible apply endsO_norm | exact DLes.nil | with_reducible exact DLe.refl _ | exact DLe.any _ | with_reducible apply DLes.cons | with_reducible exact rle_refl | exact rle_bool rfl | exact rle_int rfl | exact rle_nil rfl | exact rle_sl0 rfl)
  all_goals (conv => whnf)
  all_goals (refine rle_bool ?_; simp)
theorem isDay_sem (n : Int) : Sem Tryd.prog 129 [.int .i64 n] (.bool (!(decide (n < 1) || decide (3652059 < n)))) := by
  refine sem_intro (M := fun t => mem t []) hT hM Tryd.func129 inferInstance rfl rfl rfl rfl rfl rfl ?_
  repeat' (
    (conv => whnf)
    first
      | ((with_reducible apply NumE.go); (conv => whnf); (with_reducible apply SideD.mk); (focus ((first | (intro hc; have hc0 := hc; (try simp only [SPLT] at hc); (try refine And.intro (by first | exact hc0 | exact ⟨hc0, hc0⟩ | exact ⟨hc0, hc0, hc0⟩) ?_)) | skip); first | exact shr_one _ | exact IntWalk.i64_in _ (by omega) | exact IntWalk.u8_in _ (by omega) | exact ⟨by omega, IntWalk.i64_quo _ _ ⟨by omega, by omega, by omega⟩⟩ | exact ⟨by omega, IntWalk.rem_in _ _ (by omega)⟩ | exact IntWalk.u64_in _ (by omega) | exact IntWalk.i32_in _ (by omega) | exact rfl | exact ⟨by omega, rfl⟩ | exact ⟨by omega, (by decide), IntWalk.i64_in _ (by omega)⟩ | exact ⟨by omega, (by decide), rfl⟩ | exact ⟨by omega, (by show _ ≤ (64 : Int); omega), rfl⟩ | exact hc0 | exact ⟨hc0, hc0⟩ | exact ⟨hc0, hc0, hc0⟩ | (simp only [Bool.and_eq_true] at hc0; simp [hc0]; done) | (simp_all; done))))
      | ((with_reducible apply IdxE.go); (conv => whnf); (with_reducible apply SideD.mk); (focus ((first | (intro hc; have hc0 := hc; (try simp only [SPLT] at hc); (try refine And.intro (by first | exact hc0 | exact ⟨hc0, hc0⟩ | exact ⟨hc0, hc0, hc0⟩) ?_)) | skip); first | exact idx_nat (by assumption) | exact idx_some (by omega) (by assumption) | exact idx_eq (by assumption) (by omega) | exact hc0 | exact ⟨hc0, hc0⟩ | exact ⟨hc0, hc0, hc0⟩ | (simp only [Bool.and_eq_true] at hc0; simp [hc0]; done) | (simp_all; done))))
      | ((with_reducible apply TextE.go); (conv => whnf); (with_reducible apply SideD.mk); (focus ((first | (intro hc; have hc0 := hc; (try simp only [SPLT] at hc); (try refine And.intro (by first | exact hc0 | exact ⟨hc0, hc0⟩ | exact ⟨hc0, hc0, hc0⟩) ?_)) | skip); first | exact rfl | assumption | exact hc0 | exact ⟨hc0, hc0⟩ | exact ⟨hc0, hc0, hc0⟩ | (simp only [Bool.and_eq_true] at hc0; simp [hc0]; done) | (simp_all; done))))
      | ((with_reducible apply LookE.go); (conv => whnf); (with_reducible apply SideD.mk); (focus ((first | (intro hc; have hc0 := hc; (try simp only [SPLT] at hc); (try refine And.intro (by first | exact hc0 | exact ⟨hc0, hc0⟩ | exact ⟨hc0, hc0, hc0⟩) ?_)) | skip); first | exact ⟨rfl, rfl⟩ | exact rfl | exact hc0 | exact ⟨hc0, hc0⟩ | exact ⟨hc0, hc0, hc0⟩ | (simp only [Bool.and_eq_true] at hc0; simp [hc0]; done) | (simp_all; done))))
      | ((with_reducible apply CallE.go); (conv => whnf); (with_reducible apply SideD.mk); (focus ((first | (intro hc; have hc0 := hc; (try simp only [SPLT] at hc); (try refine And.intro (by first | exact hc0 | exact ⟨hc0, hc0⟩ | exact ⟨hc0, hc0, hc0⟩) ?_)) | skip); first | ((try apply givesl); (focus (first | ((apply gives_go (outside_sem _ _ _)); (focus (first | exact DLes.refl _ | (repeat (first | exact DLes.nil | ((apply DLes.cons); (focus (first | exact DLe.refl _ | exact DLe.own _ _ | exact DLe.nil _ _ | exact DLe.any _))))))); (focus exact rfl); (all_goals (first | exact rfl | assumption | omega | (simp; omega) | (simp; done)))))); (all_goals exact rfl)) | exact hc0 | exact ⟨hc0, hc0⟩ | exact ⟨hc0, hc0, hc0⟩ | (simp only [Bool.and_eq_true] at hc0; simp [hc0]; done) | (simp_all; done))))
      | ((with_reducible apply CallO.go); (conv => whnf); (with_reducible apply SideD.mk); (focus (first | fail)))
      | ((with_reducible apply SideD.mk); (focus ((first | (intro hc; have hc0 := hc; (try simp only [SPLT] at hc); (try refine And.intro (by first | exact hc0 | exact ⟨hc0, hc0⟩ | exact ⟨hc0, hc0, hc0⟩) ?_)) | skip); first | exact ⟨by omega, by omega⟩ | omega | exact ⟨rfl, rfl, by simp only [List.length_map, List.length_append, List.length_cons, List.length_nil]; omega⟩ | exact ⟨rfl, rfl, by simp; omega⟩ | exact ⟨rfl, rfl, by omega⟩ | exact ⟨rfl, by simp; omega⟩ | exact id | (intro h; simp [h]; done) | ((repeat (first | exact trivial | exact rfl | apply And.intro)); done) | (simp; omega) | (refine ⟨?_, ?_, ?_⟩ <;> (simp; omega)) | (refine ⟨?_, ?_, ?_⟩ <;> first | omega | (simp; done) | (simp; omega)) | exact hc0 | exact ⟨hc0, hc0⟩ | exact ⟨hc0, hc0, hc0⟩ | (simp only [Bool.and_eq_true] at hc0; simp [hc0]; done) | (simp_all; done))))
      | ((with_reducible apply DrawR.go0); (focus kernel_rfl))
      | ((with_reducible apply KerB.mk); (focus kernel_rfl))
      | with_reducible apply ends_ret
      | with_reducible apply ends_norm
      | with_reducible apply Halt'.mk
      | ((with_reducible apply CondD.mk) <;> intro hb <;> (try simp only [SPLT] at hb) <;> (try first | contradiction | exact absurd hb (by assumption) | exact absurd (by assumption) hb | (exfalso; omega))))
  all_goals (try exact (false : Bool))
  repeat' ((conv => whnf); first | exact trivial | with_reducible apply And.intro | with_reducible apply endsO_ret | with_reducible apply endsO_norm | exact DLes.nil | with_reducible exact DLe.refl _ | exact DLe.any _ | with_reducible apply DLes.cons | with_reducible exact rle_refl | exact rle_bool rfl | exact rle_int rfl | exact rle_nil rfl | exact rle_sl0 rfl)
  all_goals (conv => whnf)
theorem within8_sem (n a b : Int) : Sem Tryd.prog 32 [.int .i64 n, .int .i64 a, .int .i64 b] (.bool (decide (a ≤ n) && decide (n ≤ b))) := by
  refine sem_intro (M := fun t => mem t []) hT hM Tryd.func32 inferInstance rfl rfl rfl rfl rfl rfl ?_
  repeat' (
    (conv => whnf)
    first
      | ((with_reducible apply NumE.go); (conv => whnf); (with_reducible apply SideD.mk); (focus ((first | (intro hc; have hc0 := hc; (try simp only [SPLT] at hc); (try refine And.intro (by first | exact hc0 | exact ⟨hc0, hc0⟩ | exact ⟨hc0, hc0, hc0⟩) ?_)) | skip); first | exact shr_one _ | exact IntWalk.i64_in _ (by omega) | exact IntWalk.u8_in _ (by omega) | exact ⟨by omega, IntWalk.i64_quo _ _ ⟨by omega, by omega, by omega⟩⟩ | exact ⟨by omega, IntWalk.rem_in _ _ (by omega)⟩ | exact IntWalk.u64_in _ (by omega) | exact IntWalk.i32_in _ (by omega) | exact rfl | exact ⟨by omega, rfl⟩ | exact ⟨by omega, (by decide), IntWalk.i64_in _ (by omega)⟩ | exact ⟨by omega, (by decide), rfl⟩ | exact ⟨by omega, (by show _ ≤ (64 : Int); omega), rfl⟩ | exact hc0 | exact ⟨hc0, hc0⟩ | exact ⟨hc0, hc0, hc0⟩ | (simp only [Bool.and_eq_true] at hc0; simp [hc0]; done) | (simp_all; done))))
      | ((with_reducible apply IdxE.go); (conv => whnf); (with_reducible apply SideD.mk); (focus ((first | (intro hc; have hc0 := hc; (try simp only [SPLT] at hc); (try refine And.intro (by first | exact hc0 | exact ⟨hc0, hc0⟩ | exact ⟨hc0, hc0, hc0⟩) ?_)) | skip); first | exact idx_nat (by assumption) | exact idx_some (by omega) (by assumption) | exact idx_eq (by assumption) (by omega) | exact hc0 | exact ⟨hc0, hc0⟩ | exact ⟨hc0, hc0, hc0⟩ | (simp only [Bool.and_eq_true] at hc0; simp [hc0]; done) | (simp_all; done))))
      | ((with_reducible apply TextE.go); (conv => whnf); (with_reducible apply SideD.mk); (focus ((first | (intro hc; have hc0 := hc; (try simp only [SPLT] at hc); (try refine And.intro (by first | exact hc0 | exact ⟨hc0, hc0⟩ | exact ⟨hc0, hc0, hc0⟩) ?_)) | skip); first | exact rfl | assumption | exact hc0 | exact ⟨hc0, hc0⟩ | exact ⟨hc0, hc0, hc0⟩ | (simp only [Bool.and_eq_true] at hc0; simp [hc0]; done) | (simp_all; done))))
      | ((with_reducible apply LookE.go); (conv => whnf); (with_reducible apply SideD.mk); (focus ((first | (intro hc; have hc0 := hc; (try simp only [SPLT] at hc); (try refine And.intro (by first | exact hc0 | exact ⟨hc0, hc0⟩ | exact ⟨hc0, hc0, hc0⟩) ?_)) | skip); first | exact ⟨rfl, rfl⟩ | exact rfl | exact hc0 | exact ⟨hc0, hc0⟩ | exact ⟨hc0, hc0, hc0⟩ | (simp only [Bool.and_eq_true] at hc0; simp [hc0]; done) | (simp_all; done))))
      | ((with_reducible apply CallE.go); (conv => whnf); (with_reducible apply SideD.mk); (focus ((first | (intro hc; have hc0 := hc; (try simp only [SPLT] at hc); (try refine And.intro (by first | exact hc0 | exact ⟨hc0, hc0⟩ | exact ⟨hc0, hc0, hc0⟩) ?_)) | skip); first | ((try apply givesl); (focus (first | fail)); (all_goals exact rfl)) | exact hc0 | exact ⟨hc0, hc0⟩ | exact ⟨hc0, hc0, hc0⟩ | (simp only [Bool.and_eq_true] at hc0; simp [hc0]; done) | (simp_all; done))))
      | ((with_reducible apply CallO.go); (conv => whnf); (with_reducible apply SideD.mk); (focus (first | fail)))
      | ((with_reducible apply SideD.mk); (focus ((first | (intro hc; have hc0 := hc; (try simp only [SPLT] at hc); (try refine And.intro (by first | exact hc0 | exact ⟨hc0, hc0⟩ | exact ⟨hc0, hc0, hc0⟩) ?_)) | skip); first | exact ⟨by omega, by omega⟩ | omega | exact ⟨rfl, rfl, by simp only [List.length_map, List.length_append, List.length_cons, List.length_nil]; omega⟩ | exact ⟨rfl, rfl, by simp; omega⟩ | exact ⟨rfl, rfl, by omega⟩ | exact ⟨rfl, by simp; omega⟩ | exact id | (intro h; simp [h]; done) | ((repeat (first | exact trivial | exact rfl | apply And.intro)); done) | (simp; omega) | (refine ⟨?_, ?_, ?_⟩ <;> (simp; omega)) | (refine ⟨?_, ?_, ?_⟩ <;> first | omega | (simp; done) | (simp; omega)) | exact hc0 | exact ⟨hc0, hc0⟩ | exact ⟨hc0, hc0, hc0⟩ | (simp only [Bool.and_eq_true] at hc0; simp [hc0]; done) | (simp_all; done))))
      | ((with_reducible apply DrawR.go0); (focus kernel_rfl))
      | ((with_reducible apply KerB.mk); (focus kernel_rfl))
      | with_reducible apply ends_ret
      | with_reducible apply ends_norm
      | with_reducible apply Halt'.mk
      | ((with_reducible apply CondD.mk) <;> intro hb <;> (try simp only [SPLT] at hb) <;> (try first | contradiction | exact absurd hb (by assumption) | exact absurd (by assumption) hb | (exfalso; omega))))
  all_goals (try exact (false : Bool))
  repeat' ((conv => whnf); first | exact trivial | with_reducible apply And.intro | with_reducible apply endsO_ret | with_reducible apply endsO_norm | exact DLes.nil | with_reducible exact DLe.refl _ | exact DLe.any _ | with_reducible apply DLes.cons | with_reducible exact rle_refl | exact rle_bool rfl | exact rle_int rfl | exact rle_nil rfl | exact rle_sl0 rfl)
  all_goals (conv => whnf)
theorem inBytes_sem (s : Str) (hs : s.Ok) : Sem Tryd.prog 115 [.str s, .int .u8 33, .int .u8 126] (.bool (s.all idByte)) := by
  unfold Str.Ok at hs
  refine sem_intro (M := fun t => mem t []) hT hM Tryd.func115 inferInstance rfl rfl rfl rfl rfl rfl ?_
  repeat' (
    (conv => whnf)
    first
      | ((with_reducible apply NumE.go); (conv => whnf); (with_reducible apply SideD.mk); (focus ((first | (intro hc; have hc0 := hc; (try simp only [SPLT] at hc); (try refine And.intro (by first | exact hc0 | exact ⟨hc0, hc0⟩ | exact ⟨hc0, hc0, hc0⟩) ?_)) | skip); first | exact shr_one _ | exact IntWalk.i64_in _ (by omega) | exact IntWalk.u8_in _ (by omega) | exact ⟨by omega, IntWalk.i64_quo _ _ ⟨by omega, by omega, by omega⟩⟩ | exact ⟨by omega, IntWalk.rem_in _ _ (by omega)⟩ | exact IntWalk.u64_in _ (by omega) | exact IntWalk.i32_in _ (by omega) | exact rfl | exact ⟨by omega, rfl⟩ | exact ⟨by omega, (by decide), IntWalk.i64_in _ (by omega)⟩ | exact ⟨by omega, (by decide), rfl⟩ | exact ⟨by omega, (by show _ ≤ (64 : Int); omega), rfl⟩ | exact hc0 | exact ⟨hc0, hc0⟩ | exact ⟨hc0, hc0, hc0⟩ | (simp only [Bool.and_eq_true] at hc0; simp [hc0]; done) | (simp_all; done))))
      | ((with_reducible apply IdxE.go); (conv => whnf); (with_reducible apply SideD.mk); (focus ((first | (intro hc; have hc0 := hc; (try simp only [SPLT] at hc); (try refine And.intro (by first | exact hc0 | exact ⟨hc0, hc0⟩ | exact ⟨hc0, hc0, hc0⟩) ?_)) | skip); first | exact idx_nat (by assumption) | exact idx_some (by omega) (by assumption) | exact idx_eq (by assumption) (by omega) | exact hc0 | exact ⟨hc0, hc0⟩ | exact ⟨hc0, hc0, hc0⟩ | (simp only [Bool.and_eq_true] at hc0; simp [hc0]; done) | (simp_all; done))))
      | ((with_reducible apply TextE.go); (conv => whnf); (with_reducible apply SideD.mk); (focus ((first | (intro hc; have hc0 := hc; (try simp only [SPLT] at hc); (try refine And.intro (by first | exact hc0 | exact ⟨hc0, hc0⟩ | exact ⟨hc0, hc0, hc0⟩) ?_)) | skip); first | exact rfl | assumption | exact hc0 | exact ⟨hc0, hc0⟩ | exact ⟨hc0, hc0, hc0⟩ | (simp only [Bool.and_eq_true] at hc0; simp [hc0]; done) | (simp_all; done))))
      | ((with_reducible apply LookE.go); (conv => whnf); (with_reducible apply SideD.mk); (focus ((first | (intro hc; have hc0 := hc; (try simp only [SPLT] at hc); (try refine And.intro (by first | exact hc0 | exact ⟨hc0, hc0⟩ | exact ⟨hc0, hc0, hc0⟩) ?_)) | skip); first | exact ⟨rfl, rfl⟩ | exact rfl | exact hc0 | exact ⟨hc0, hc0⟩ | exact ⟨hc0, hc0, hc0⟩ | (simp only [Bool.and_eq_true] at hc0; simp [hc0]; done) | (simp_all; done))))
      | ((with_reducible apply CallE.go); (conv => whnf); (with_reducible apply SideD.mk); (focus ((first | (intro hc; have hc0 := hc; (try simp only [SPLT] at hc); (try refine And.intro (by first | exact hc0 | exact ⟨hc0, hc0⟩ | exact ⟨hc0, hc0, hc0⟩) ?_)) | skip); first | ((try apply givesl); (focus (first | fail)); (all_goals exact rfl)) | exact hc0 | exact ⟨hc0, hc0⟩ | exact ⟨hc0, hc0, hc0⟩ | (simp only [Bool.and_eq_true] at hc0; simp [hc0]; done) | (simp_all; done))))
      | ((with_reducible apply CallO.go); (conv => whnf); (with_reducible apply SideD.mk); (focus (first | fail)))
      | ((with_reducible apply SideD.mk); (focus ((first | (intro hc; have hc0 := hc; (try simp only [SPLT] at hc); (try refine And.intro (by first | exact hc0 | exact ⟨hc0, hc0⟩ | exact ⟨hc0, hc0, hc0⟩) ?_)) | skip); first | exact ⟨by omega, by omega⟩ | omega | exact ⟨rfl, rfl, by simp only [List.length_map, List.length_append, List.length_cons, List.length_nil]; omega⟩ | exact ⟨rfl, rfl, by simp; omega⟩ | exact ⟨rfl, rfl, by omega⟩ | exact ⟨rfl, by simp; omega⟩ | exact id | (intro h; simp [h]; done) | ((repeat (first | exact trivial | exact rfl | apply And.intro)); done) | (simp; omega) | (refine ⟨?_, ?_, ?_⟩ <;> (simp; omega)) | (refine ⟨?_, ?_, ?_⟩ <;> first | omega | (simp; done) | (simp; omega)) | exact hc0 | exact ⟨hc0, hc0⟩ | exact ⟨hc0, hc0, hc0⟩ | (simp only [Bool.and_eq_true] at hc0; simp [hc0]; done) | (simp_all; done))))
      | ((with_reducible apply DrawR.go0); (focus kernel_rfl))
      | ((with_reducible apply KerB.mk); (focus kernel_rfl))
      | with_reducible apply ends_ret
      | with_reducible apply ends_norm
      | with_reducible apply Halt'.mk
      | ((with_reducible apply CondD.mk) <;> intro hb <;> (try simp only [SPLT] at hb) <;> (try first | contradiction | exact absurd hb (by assumption) | exact absurd (by assumption) hb | (exfalso; omega))))
  all_goals (try exact (false : Bool))
  refine loop_go (M := fun t => mem t []) hT hM (fun k : Nat => [(10, .int .i64 k)]) (fun k => k ≤ s.length ∧ (s.take k).all idByte = true) (fun k => s.length - k) (0) ?_ ?_ ?_
  · (conv => whnf)
    refine ⟨?_, by rfl⟩
    repeat' ((conv => whnf); first | exact DLes.nil | with_reducible exact DLe.refl _ | exact DLe.any _ | with_reducible apply DLes.cons | exact DLe.refl _ | exact dle_int (by omega) | exact dle_nil rfl | exact DLe.own _ _)
  · exact ⟨by omega, rfl⟩
  · rintro k ⟨hk, hall⟩
    repeat' (
      (conv => whnf)
      first
        | ((with_reducible apply NumE.go); (conv => whnf); (with_reducible apply SideD.mk); (focus ((first | (intro hc; have hc0 := hc; (try simp only [SPLT] at hc); (try refine And.intro (by first | exact hc0 | exact ⟨hc0, hc0⟩ | exact ⟨hc0, hc0, hc0⟩) ?_)) | skip); first | exact shr_one _ | exact IntWalk.i64_in _ (by omega) | exact IntWalk.u8_in _ (by omega) | exact ⟨by omega, IntWalk.i64_quo _ _ ⟨by omega, by omega, by omega⟩⟩ | exact ⟨by omega, IntWalk.rem_in _ _ (by omega)⟩ | exact IntWalk.u64_in _ (by omega) | exact IntWalk.i32_in _ (by omega) | exact rfl | exact ⟨by omega, rfl⟩ | exact ⟨by omega, (by decide), IntWalk.i64_in _ (by omega)⟩ | exact ⟨by omega, (by decide), rfl⟩ | exact ⟨by omega, (by show _ ≤ (64 : Int); omega), rfl⟩ | exact hc0 | exact ⟨hc0, hc0⟩ | exact ⟨hc0, hc0, hc0⟩ | (simp only [Bool.and_eq_true] at hc0; simp [hc0]; done) | (simp_all; done))))
        | ((with_reducible apply IdxE.go); (conv => whnf); (with_reducible apply SideD.mk); (focus ((first | (intro hc; have hc0 := hc; (try simp only [SPLT] at hc); (try refine And.intro (by first | exact hc0 | exact ⟨hc0, hc0⟩ | exact ⟨hc0, hc0, hc0⟩) ?_)) | skip); first | exact idx_nat (by assumption) | exact idx_some (by omega) (by assumption) | exact idx_eq (by assumption) (by omega) | exact hc0 | exact ⟨hc0, hc0⟩ | exact ⟨hc0, hc0, hc0⟩ | (simp only [Bool.and_eq_true] at hc0; simp [hc0]; done) | (simp_all; done))))
        | ((with_reducible apply TextE.go); (conv => whnf); (with_reducible apply SideD.mk); (focus ((first | (intro hc; have hc0 := hc; (try simp only [SPLT] at hc); (try refine And.intro (by first | exact hc0 | exact ⟨hc0, hc0⟩ | exact ⟨hc0, hc0, hc0⟩) ?_)) | skip); first | exact rfl | assumption | exact hc0 | exact ⟨hc0, hc0⟩ | exact ⟨hc0, hc0, hc0⟩ | (simp only [Bool.and_eq_true] at hc0; simp [hc0]; done) | (simp_all; done))))
        | ((with_reducible apply LookE.go); (conv => whnf); (with_reducible apply SideD.mk); (focus ((first | (intro hc; have hc0 := hc; (try simp only [SPLT] at hc); (try refine And.intro (by first | exact hc0 | exact ⟨hc0, hc0⟩ | exact ⟨hc0, hc0, hc0⟩) ?_)) | skip); first | exact ⟨rfl, rfl⟩ | exact rfl | exact hc0 | exact ⟨hc0, hc0⟩ | exact ⟨hc0, hc0, hc0⟩ | (simp only [Bool.and_eq_true] at hc0; simp [hc0]; done) | (simp_all; done))))
        | ((with_reducible apply CallE.go); (conv => whnf); (with_reducible apply SideD.mk); (focus ((first | (intro hc; have hc0 := hc; (try simp only [SPLT] at hc); (try refine And.intro (by first | exact hc0 | exact ⟨hc0, hc0⟩ | exact ⟨hc0, hc0, hc0⟩) ?_)) | skip); first | ((try apply givesl); (focus (first | fail)); (all_goals exact rfl)) | exact hc0 | exact ⟨hc0, hc0⟩ | exact ⟨hc0, hc0, hc0⟩ | (simp only [Bool.and_eq_true] at hc0; simp [hc0]; done) | (simp_all; done))))
        | ((with_reducible apply CallO.go); (conv => whnf); (with_reducible apply SideD.mk); (focus (first | fail)))
        | ((with_reducible apply SideD.mk); (focus ((first | (intro hc; have hc0 := hc; (try simp only [SPLT] at hc); (try refine And.intro (by first | exact hc0 | exact ⟨hc0, hc0⟩ | exact ⟨hc0, hc0, hc0⟩) ?_)) | skip); first | exact ⟨by omega, by omega⟩ | omega | exact ⟨rfl, rfl, by simp only [List.length_map, List.length_append, List.length_cons, List.length_nil]; omega⟩ | exact ⟨rfl, rfl, by simp; omega⟩ | exact ⟨rfl, rfl, by omega⟩ | exact ⟨rfl, by simp; omega⟩ | exact id | (intro h; simp [h]; done) | ((repeat (first | exact trivial | exact rfl | apply And.intro)); done) | (simp; omega) | (refine ⟨?_, ?_, ?_⟩ <;> (simp; omega)) | (refine ⟨?_, ?_, ?_⟩ <;> first | omega | (simp; done) | (simp; omega)) | exact hc0 | exact ⟨hc0, hc0⟩ | exact ⟨hc0, hc0, hc0⟩ | (simp only [Bool.and_eq_true] at hc0; simp [hc0]; done) | (simp_all; done))))
        | ((with_reducible apply DrawR.go0); (focus kernel_rfl))
        | ((with_reducible apply KerB.mk); (focus kernel_rfl))
        | with_reducible apply ends_ret
        | with_reducible apply ends_norm
        | with_reducible apply Halt'.mk
        | ((with_reducible apply CondD.mk) <;> intro hb <;> (try simp only [SPLT] at hb) <;> (try first | contradiction | exact absurd hb (by assumption) | exact absurd (by assumption) hb | (exfalso; omega))))
    all_goals (try exact (false : Bool))
    · rename_i hb0
      obtain ⟨x, hx⟩ : ∃ x, s[k]? = some x := ⟨s[k], by simp⟩
      repeat' ((conv => whnf); first | exact trivial | with_reducible apply And.intro | with_reducible apply endsO_ret | with_reducible apply endsO_norm | exact DLes.nil | with_reducible exact DLe.refl _ | exact DLe.any _ | with_reducible apply DLes.cons | with_reducible exact rle_refl | exact rle_bool rfl | exact rle_int rfl | exact rle_nil rfl | exact rle_sl0 rfl)
      all_goals (conv => whnf)
      refine rle_bool (Eq.symm ?_)
      simp [hx] at hb
      have : idByte x = false := by
        simp [idByte]
        omega
      rw [List.all_eq_false]
      exact ⟨x, List.mem_of_getElem? hx, by simp [this]⟩
    · rename_i hb0
      obtain ⟨x, hx⟩ : ∃ x, s[k]? = some x := ⟨s[k], by simp⟩
      refine ⟨k + 1, ⟨by omega, ?_⟩, by omega, ?_⟩
      · simp [hx] at hb
        rw [take_at hx, List.all_append, hall]
        have : idByte x = true := by
          simp [idByte]
          omega
        simp [this]
      · (conv => whnf)
        refine ⟨?_, by rfl⟩
        repeat' ((conv => whnf); first | exact DLes.nil | with_reducible exact DLe.refl _ | exact DLe.any _ | with_reducible apply DLes.cons | exact DLe.refl _ | exact dle_int (by omega) | exact dle_nil rfl | exact DLe.own _ _)
    · repeat' ((conv => whnf); first | exact trivial | with_reducible apply And.intro | with_reducible apply endsO_ret | with_reducible apply endsO_norm | exact DLes.nil | with_reducible exact DLe.refl _ | exact DLe.any _ | with_reducible apply DLes.cons | with_reducible exact rle_refl | exact rle_bool rfl | exact rle_int rfl | exact rle_nil rfl | exact rle_sl0 rfl)
      all_goals (conv => whnf)
      refine rle_bool (Eq.symm ?_)
      rw [List.take_of_length_le (by omega)] at hall
      exact hall
theorem addressFault_sem (a : Adr) (ha : a.Ok) : Sem Tryd.prog 99 [a.d] (.int .i64 (adrFaultN a)) := by
  obtain ⟨h1, h2⟩ := ha
  refine sem_intro (M := fun t => mem t []) hT hM Tryd.func99 inferInstance rfl rfl rfl rfl rfl rfl ?_
  repeat' (
    (conv => whnf)
    first
      | ((with_reducible apply NumE.go); (conv => whnf); (with_reducible apply SideD.mk); (focus ((first | (intro hc; have hc0 := hc; (try simp only [SPLT] at hc); (try refine And.intro (by first | exact hc0 | exact ⟨hc0, hc0⟩ | exact ⟨hc0, hc0, hc0⟩) ?_)) | skip); first | exact shr_one _ | exact IntWalk.i64_in _ (by omega) | exact IntWalk.u8_in _ (by omega) | exact ⟨by omega, IntWalk.i64_quo _ _ ⟨by omega, by omega, by omega⟩⟩ | exact ⟨by omega, IntWalk.rem_in _ _ (by omega)⟩ | exact IntWalk.u64_in _ (by omega) | exact IntWalk.i32_in _ (by omega) | exact rfl | exact ⟨by omega, rfl⟩ | exact ⟨by omega, (by decide), IntWalk.i64_in _ (by omega)⟩ | exact ⟨by omega, (by decide), rfl⟩ | exact ⟨by omega, (by show _ ≤ (64 : Int); omega), rfl⟩ | exact hc0 | exact ⟨hc0, hc0⟩ | exact ⟨hc0, hc0, hc0⟩ | (simp only [Bool.and_eq_true] at hc0; simp [hc0]; done) | (simp_all; done))))
      | ((with_reducible apply IdxE.go); (conv => whnf); (with_reducible apply SideD.mk); (focus ((first | (intro hc; have hc0 := hc; (try simp only [SPLT] at hc); (try refine And.intro (by first | exact hc0 | exact ⟨hc0, hc0⟩ | exact ⟨hc0, hc0, hc0⟩) ?_)) | skip); first | exact idx_nat (by assumption) | exact idx_some (by omega) (by assumption) | exact idx_eq (by assumption) (by omega) | exact hc0 | exact ⟨hc0, hc0⟩ | exact ⟨hc0, hc0, hc0⟩ | (simp only [Bool.and_eq_true] at hc0; simp [hc0]; done) | (simp_all; done))))
      | ((with_reducible apply TextE.go); (conv => whnf); (with_reducible apply SideD.mk); (focus ((first | (intro hc; have hc0 := hc; (try simp only [SPLT] at hc); (try refine And.intro (by first | exact hc0 | exact ⟨hc0, hc0⟩ | exact ⟨hc0, hc0, hc0⟩) ?_)) | skip); first | exact rfl | assumption | exact hc0 | exact ⟨hc0, hc0⟩ | exact ⟨hc0, hc0, hc0⟩ | (simp only [Bool.and_eq_true] at hc0; simp [hc0]; done) | (simp_all; done))))
      | ((with_reducible apply LookE.go); (conv => whnf); (with_reducible apply SideD.mk); (focus ((first | (intro hc; have hc0 := hc; (try simp only [SPLT] at hc); (try refine And.intro (by first | exact hc0 | exact ⟨hc0, hc0⟩ | exact ⟨hc0, hc0, hc0⟩) ?_)) | skip); first | exact ⟨rfl, rfl⟩ | exact rfl | exact hc0 | exact ⟨hc0, hc0⟩ | exact ⟨hc0, hc0, hc0⟩ | (simp only [Bool.and_eq_true] at hc0; simp [hc0]; done) | (simp_all; done))))
      | ((with_reducible apply CallE.go); (conv => whnf); (with_reducible apply SideD.mk); (focus ((first | (intro hc; have hc0 := hc; (try simp only [SPLT] at hc); (try refine And.intro (by first | exact hc0 | exact ⟨hc0, hc0⟩ | exact ⟨hc0, hc0, hc0⟩) ?_)) | skip); first | ((try apply givesl); (focus (first | ((apply gives_go (isName_sem _ _)); (focus (first | exact DLes.refl _ | (repeat (first | exact DLes.nil | ((apply DLes.cons); (focus (first | exact DLe.refl _ | exact DLe.own _ _ | exact DLe.nil _ _ | exact DLe.any _))))))); (focus exact rfl); (all_goals (first | exact rfl | assumption | omega | (simp; omega) | (simp; done)))) | ((apply gives_go (inBytes_sem _ _)); (focus (first | exact DLes.refl _ | (repeat (first | exact DLes.nil | ((apply DLes.cons); (focus (first | exact DLe.refl _ | exact DLe.own _ _ | exact DLe.nil _ _ | exact DLe.any _))))))); (focus exact rfl); (all_goals (first | exact rfl | assumption | omega | (simp; omega) | (simp; done)))))); (all_goals exact rfl)) | exact hc0 | exact ⟨hc0, hc0⟩ | exact ⟨hc0, hc0, hc0⟩ | (simp only [Bool.and_eq_true] at hc0; simp [hc0]; done) | (simp_all; done))))
      | ((with_reducible apply CallO.go); (conv => whnf); (with_reducible apply SideD.mk); (focus (first | fail)))
      | ((with_reducible apply SideD.mk); (focus ((first | (intro hc; have hc0 := hc; (try simp only [SPLT] at hc); (try refine And.intro (by first | exact hc0 | exact ⟨hc0, hc0⟩ | exact ⟨hc0, hc0, hc0⟩) ?_)) | skip); first | exact ⟨by omega, by omega⟩ | omega | exact ⟨rfl, rfl, by simp only [List.length_map, List.length_append, List.length_cons, List.length_nil]; omega⟩ | exact ⟨rfl, rfl, by simp; omega⟩ | exact ⟨rfl, rfl, by omega⟩ | exact ⟨rfl, by simp; omega⟩ | exact id | (intro h; simp [h]; done) | ((repeat (first | exact trivial | exact rfl | apply And.intro)); done) | (simp; omega) | (refine ⟨?_, ?_, ?_⟩ <;> (simp; omega)) | (refine ⟨?_, ?_, ?_⟩ <;> first | omega | (simp; done) | (simp; omega)) | exact hc0 | exact ⟨hc0, hc0⟩ | exact ⟨hc0, hc0, hc0⟩ | (simp only [Bool.and_eq_true] at hc0; simp [hc0]; done) | (simp_all; done))))
      | ((with_reducible apply DrawR.go0); (focus kernel_rfl))
      | ((with_reducible apply KerB.mk); (focus kernel_rfl))
      | with_reducible apply ends_ret
      | with_reducible apply ends_norm
      | with_reducible apply Halt'.mk
      | ((with_reducible apply CondD.mk) <;> intro hb <;> (try simp only [SPLT] at hb) <;> (try first | contradiction | exact absurd hb (by assumption) | exact absurd (by assumption) hb | (exfalso; omega))))
  all_goals (try exact (false : Bool))
  · repeat' ((conv => whnf); first | exact trivial | with_reducible apply And.intro | with_reducible apply endsO_ret | with_reducible apply endsO_norm | exact DLes.nil | with_reducible exact DLe.refl _ | exact DLe.any _ | with_reducible apply DLes.cons | with_reducible exact rle_refl | exact rle_bool rfl | exact rle_int rfl | exact rle_nil rfl | exact rle_sl0 rfl)
    all_goals (conv => whnf)
    refine rle_int ?_
    simp_all [adrFaultN]
  · repeat' ((conv => whnf); first | exact trivial | with_reducible apply And.intro | with_reducible apply endsO_ret | with_reducible apply endsO_norm | exact DLes.nil | with_reducible exact DLe.refl _ | exact DLe.any _ | with_reducible apply DLes.cons | with_reducible exact rle_refl | exact rle_bool rfl | exact rle_int rfl | exact rle_nil rfl | exact rle_sl0 rfl)
    all_goals (conv => whnf)
    refine rle_int ?_
    rename_i hn
    rw [adrFaultN, if_neg (by simp_all), if_pos]
    simp only [Bool.or_eq_true, decide_eq_true_eq]
    rcases hb with (h | h) | h
    · exact .inl (.inl (by omega))
    · exact .inl (.inr (by omega))
    · exact .inr (by simpa using h)
  · repeat' ((conv => whnf); first | exact trivial | with_reducible apply And.intro | with_reducible apply endsO_ret | with_reducible apply endsO_norm | exact DLes.nil | with_reducible exact DLe.refl _ | exact DLe.any _ | with_reducible apply DLes.cons | with_reducible exact rle_refl | exact rle_bool rfl | exact rle_int rfl | exact rle_nil rfl | exact rle_sl0 rfl)
    all_goals (conv => whnf)
    refine rle_int ?_
    rename_i hn
    rw [adrFaultN, if_neg (by simp_all), if_neg]
    simp only [Bool.or_eq_true, decide_eq_true_eq]
    rintro ((h | h) | h)
    · omega
    · omega
    · simp at h
      obtain ⟨x, hx, hf⟩ := h
      have := hb.2
      simp_all
end Go.Proofs.YthbhjladfniboaaDoor
namespace Go.Proofs.YthbhjladfniboaaDoor
set_option linter.unusedSimpArgs false
set_option linter.unusedVariables false
open Go.RowKit
set_option maxRecDepth 100000
set_option maxHeartbeats 1000000

theorem checkSeries19_sem : Sem Tryd.prog 53 [.agg [.int .i64 1, .int .i64 9]] (.int .i64 0) := by
  refine sem_intro (M := fun t => mem t []) hT hM Tryd.func53 inferInstance rfl rfl rfl rfl rfl rfl ?_
  repeat' (
    (conv => whnf)
    first
      | ((with_reducible apply NumE.go); (conv => whnf); (with_reducible apply SideD.mk); (focus ((first | (intro hc; have hc0 := hc; (try simp only [SPLT] at hc); (try refine And.intro (by first | exact hc0 | exact ⟨hc0, hc0⟩ | exact ⟨hc0, hc0, hc0⟩) ?_)) | skip); first | exact shr_one _ | exact IntWalk.i64_in _ (by omega) | exact IntWalk.u8_in _ (by omega) | exact ⟨by omega, IntWalk.i64_quo _ _ ⟨by omega, by omega, by omega⟩⟩ | exact ⟨by omega, IntWalk.rem_in _ _ (by omega)⟩ | exact IntWalk.u64_in _ (by omega) | exact IntWalk.i32_in _ (by omega) | exact rfl | exact ⟨by omega, rfl⟩ | exact ⟨by omega, (by decide), IntWalk.i64_in _ (by omega)⟩ | exact ⟨by omega, (by decide), rfl⟩ | exact ⟨by omega, (by show _ ≤ (64 : Int); omega), rfl⟩ | exact hc0 | exact ⟨hc0, hc0⟩ | exact ⟨hc0, hc0, hc0⟩ | (simp only [Bool.and_eq_true] at hc0; simp [hc0]; done) | (simp_all; done))))
      | ((with_reducible apply IdxE.go); (conv => whnf); (with_reducible apply SideD.mk); (focus ((first | (intro hc; have hc0 := hc; (try simp only [SPLT] at hc); (try refine And.intro (by first | exact hc0 | exact ⟨hc0, hc0⟩ | exact ⟨hc0, hc0, hc0⟩) ?_)) | skip); first | exact idx_nat (by assumption) | exact idx_some (by omega) (by assumption) | exact idx_eq (by assumption) (by omega) | exact hc0 | exact ⟨hc0, hc0⟩ | exact ⟨hc0, hc0, hc0⟩ | (simp only [Bool.and_eq_true] at hc0; simp [hc0]; done) | (simp_all; done))))
      | ((with_reducible apply TextE.go); (conv => whnf); (with_reducible apply SideD.mk); (focus ((first | (intro hc; have hc0 := hc; (try simp only [SPLT] at hc); (try refine And.intro (by first | exact hc0 | exact ⟨hc0, hc0⟩ | exact ⟨hc0, hc0, hc0⟩) ?_)) | skip); first | exact rfl | assumption | exact hc0 | exact ⟨hc0, hc0⟩ | exact ⟨hc0, hc0, hc0⟩ | (simp only [Bool.and_eq_true] at hc0; simp [hc0]; done) | (simp_all; done))))
      | ((with_reducible apply LookE.go); (conv => whnf); (with_reducible apply SideD.mk); (focus ((first | (intro hc; have hc0 := hc; (try simp only [SPLT] at hc); (try refine And.intro (by first | exact hc0 | exact ⟨hc0, hc0⟩ | exact ⟨hc0, hc0, hc0⟩) ?_)) | skip); first | exact ⟨rfl, rfl⟩ | exact rfl | exact hc0 | exact ⟨hc0, hc0⟩ | exact ⟨hc0, hc0, hc0⟩ | (simp only [Bool.and_eq_true] at hc0; simp [hc0]; done) | (simp_all; done))))
      | ((with_reducible apply CallE.go); (conv => whnf); (with_reducible apply SideD.mk); (focus ((first | (intro hc; have hc0 := hc; (try simp only [SPLT] at hc); (try refine And.intro (by first | exact hc0 | exact ⟨hc0, hc0⟩ | exact ⟨hc0, hc0, hc0⟩) ?_)) | skip); first | ((try apply givesl); (focus (first | ((apply gives_go (outside_sem _ _ _)); (focus (first | exact DLes.refl _ | (repeat (first | exact DLes.nil | ((apply DLes.cons); (focus (first | exact DLe.refl _ | exact DLe.own _ _ | exact DLe.nil _ _ | exact DLe.any _))))))); (focus exact rfl); (all_goals (first | exact rfl | assumption | omega | (simp; omega) | (simp; done)))))); (all_goals exact rfl)) | exact hc0 | exact ⟨hc0, hc0⟩ | exact ⟨hc0, hc0, hc0⟩ | (simp only [Bool.and_eq_true] at hc0; simp [hc0]; done) | (simp_all; done))))
      | ((with_reducible apply CallO.go); (conv => whnf); (with_reducible apply SideD.mk); (focus (first | fail)))
      | ((with_reducible apply SideD.mk); (focus ((first | (intro hc; have hc0 := hc; (try simp only [SPLT] at hc); (try refine And.intro (by first | exact hc0 | exact ⟨hc0, hc0⟩ | exact ⟨hc0, hc0, hc0⟩) ?_)) | skip); first | exact ⟨by omega, by omega⟩ | omega | exact ⟨rfl, rfl, by simp only [List.length_map, List.length_append, List.length_cons, List.length_nil]; omega⟩ | exact ⟨rfl, rfl, by simp; omega⟩ | exact ⟨rfl, rfl, by omega⟩ | exact ⟨rfl, by simp; omega⟩ | exact id | (intro h; simp [h]; done) | ((repeat (first | exact trivial | exact rfl | apply And.intro)); done) | (simp; omega) | (refine ⟨?_, ?_, ?_⟩ <;> (simp; omega)) | (refine ⟨?_, ?_, ?_⟩ <;> first | omega | (simp; done) | (simp; omega)) | exact hc0 | exact ⟨hc0, hc0⟩ | exact ⟨hc0, hc0, hc0⟩ | (simp only [Bool.and_eq_true] at hc0; simp [hc0]; done) | (simp_all; done))))
      | ((with_reducible apply DrawR.go0); (focus kernel_rfl))
      | ((with_reducible apply KerB.mk); (focus kernel_rfl))
      | with_reducible apply ends_ret
      | with_reducible apply ends_norm
      | with_reducible apply Halt'.mk
      | ((with_reducible apply CondD.mk) <;> intro hb <;> (try simp only [SPLT] at hb) <;> (try first | contradiction | exact absurd hb (by assumption) | exact absurd (by assumption) hb | (exfalso; omega))))
  all_goals (try exact (false : Bool))
  repeat' ((conv => whnf); first | exact trivial | with_reducible apply And.intro | with_reducible apply endsO_ret | with_reducible apply endsO_norm | exact DLes.nil | with_reducible exact DLe.refl _ | exact DLe.any _ | with_reducible apply DLes.cons | with_reducible exact rle_refl | exact rle_bool rfl | exact rle_int rfl | exact rle_nil rfl | exact rle_sl0 rfl)
  all_goals (conv => whnf)
theorem isOf19_sem : Sem Tryd.prog 54 [.agg [.int .i64 1, .int .i64 9], .int .i64 9] (.bool true) := by
  refine sem_intro (M := fun t => mem t []) hT hM Tryd.func54 inferInstance rfl rfl rfl rfl rfl rfl ?_
  repeat' (
    (conv => whnf)
    first
      | ((with_reducible apply NumE.go); (conv => whnf); (with_reducible apply SideD.mk); (focus ((first | (intro hc; have hc0 := hc; (try simp only [SPLT] at hc); (try refine And.intro (by first | exact hc0 | exact ⟨hc0, hc0⟩ | exact ⟨hc0, hc0, hc0⟩) ?_)) | skip); first | exact shr_one _ | exact IntWalk.i64_in _ (by omega) | exact IntWalk.u8_in _ (by omega) | exact ⟨by omega, IntWalk.i64_quo _ _ ⟨by omega, by omega, by omega⟩⟩ | exact ⟨by omega, IntWalk.rem_in _ _ (by omega)⟩ | exact IntWalk.u64_in _ (by omega) | exact IntWalk.i32_in _ (by omega) | exact rfl | exact ⟨by omega, rfl⟩ | exact ⟨by omega, (by decide), IntWalk.i64_in _ (by omega)⟩ | exact ⟨by omega, (by decide), rfl⟩ | exact ⟨by omega, (by show _ ≤ (64 : Int); omega), rfl⟩ | exact hc0 | exact ⟨hc0, hc0⟩ | exact ⟨hc0, hc0, hc0⟩ | (simp only [Bool.and_eq_true] at hc0; simp [hc0]; done) | (simp_all; done))))
      | ((with_reducible apply IdxE.go); (conv => whnf); (with_reducible apply SideD.mk); (focus ((first | (intro hc; have hc0 := hc; (try simp only [SPLT] at hc); (try refine And.intro (by first | exact hc0 | exact ⟨hc0, hc0⟩ | exact ⟨hc0, hc0, hc0⟩) ?_)) | skip); first | exact idx_nat (by assumption) | exact idx_some (by omega) (by assumption) | exact idx_eq (by assumption) (by omega) | exact hc0 | exact ⟨hc0, hc0⟩ | exact ⟨hc0, hc0, hc0⟩ | (simp only [Bool.and_eq_true] at hc0; simp [hc0]; done) | (simp_all; done))))
      | ((with_reducible apply TextE.go); (conv => whnf); (with_reducible apply SideD.mk); (focus ((first | (intro hc; have hc0 := hc; (try simp only [SPLT] at hc); (try refine And.intro (by first | exact hc0 | exact ⟨hc0, hc0⟩ | exact ⟨hc0, hc0, hc0⟩) ?_)) | skip); first | exact rfl | assumption | exact hc0 | exact ⟨hc0, hc0⟩ | exact ⟨hc0, hc0, hc0⟩ | (simp only [Bool.and_eq_true] at hc0; simp [hc0]; done) | (simp_all; done))))
      | ((with_reducible apply LookE.go); (conv => whnf); (with_reducible apply SideD.mk); (focus ((first | (intro hc; have hc0 := hc; (try simp only [SPLT] at hc); (try refine And.intro (by first | exact hc0 | exact ⟨hc0, hc0⟩ | exact ⟨hc0, hc0, hc0⟩) ?_)) | skip); first | exact ⟨rfl, rfl⟩ | exact rfl | exact hc0 | exact ⟨hc0, hc0⟩ | exact ⟨hc0, hc0, hc0⟩ | (simp only [Bool.and_eq_true] at hc0; simp [hc0]; done) | (simp_all; done))))
      | ((with_reducible apply CallE.go); (conv => whnf); (with_reducible apply SideD.mk); (focus ((first | (intro hc; have hc0 := hc; (try simp only [SPLT] at hc); (try refine And.intro (by first | exact hc0 | exact ⟨hc0, hc0⟩ | exact ⟨hc0, hc0, hc0⟩) ?_)) | skip); first | ((try apply givesl); (focus (first | ((apply gives_go (outside_sem _ _ _)); (focus (first | exact DLes.refl _ | (repeat (first | exact DLes.nil | ((apply DLes.cons); (focus (first | exact DLe.refl _ | exact DLe.own _ _ | exact DLe.nil _ _ | exact DLe.any _))))))); (focus exact rfl); (all_goals (first | exact rfl | assumption | omega | (simp; omega) | (simp; done)))))); (all_goals exact rfl)) | exact hc0 | exact ⟨hc0, hc0⟩ | exact ⟨hc0, hc0, hc0⟩ | (simp only [Bool.and_eq_true] at hc0; simp [hc0]; done) | (simp_all; done))))
      | ((with_reducible apply CallO.go); (conv => whnf); (with_reducible apply SideD.mk); (focus (first | fail)))
      | ((with_reducible apply SideD.mk); (focus ((first | (intro hc; have hc0 := hc; (try simp only [SPLT] at hc); (try refine And.intro (by first | exact hc0 | exact ⟨hc0, hc0⟩ | exact ⟨hc0, hc0, hc0⟩) ?_)) | skip); first | exact ⟨by omega, by omega⟩ | omega | exact ⟨rfl, rfl, by simp only [List.length_map, List.length_append, List.length_cons, List.length_nil]; omega⟩ | exact ⟨rfl, rfl, by simp; omega⟩ | exact ⟨rfl, rfl, by omega⟩ | exact ⟨rfl, by simp; omega⟩ | exact id | (intro h; simp [h]; done) | ((repeat (first | exact trivial | exact rfl | apply And.intro)); done) | (simp; omega) | (refine ⟨?_, ?_, ?_⟩ <;> (simp; omega)) | (refine ⟨?_, ?_, ?_⟩ <;> first | omega | (simp; done) | (simp; omega)) | exact hc0 | exact ⟨hc0, hc0⟩ | exact ⟨hc0, hc0, hc0⟩ | (simp only [Bool.and_eq_true] at hc0; simp [hc0]; done) | (simp_all; done))))
      | ((with_reducible apply DrawR.go0); (focus kernel_rfl))
      | ((with_reducible apply KerB.mk); (focus kernel_rfl))
      | with_reducible apply ends_ret
      | with_reducible apply ends_norm
      | with_reducible apply Halt'.mk
      | ((with_reducible apply CondD.mk) <;> intro hb <;> (try simp only [SPLT] at hb) <;> (try first | contradiction | exact absurd hb (by assumption) | exact absurd (by assumption) hb | (exfalso; omega))))
  all_goals (try exact (false : Bool))
  repeat' ((conv => whnf); first | exact trivial | with_reducible apply And.intro | with_reducible apply endsO_ret | with_reducible apply endsO_norm | exact DLes.nil | with_reducible exact DLe.refl _ | exact DLe.any _ | with_reducible apply DLes.cons | with_reducible exact rle_refl | exact rle_bool rfl | exact rle_int rfl | exact rle_nil rfl | exact rle_sl0 rfl)
  all_goals (conv => whnf)
theorem next19_sem : Sem Tryd.prog 26 [.agg [.int .i64 1, .int .i64 9], .int .i64 9] (.tup [.int .i64 1, .int .i64 0]) := by
  refine sem_intro (M := fun t => mem t []) hT hM Tryd.func26 inferInstance rfl rfl rfl rfl rfl rfl ?_
  repeat' (
    (conv => whnf)
    first
      | ((with_reducible apply NumE.go); (conv => whnf); (with_reducible apply SideD.mk); (focus ((first | (intro hc; have hc0 := hc; (try simp only [SPLT] at hc); (try refine And.intro (by first | exact hc0 | exact ⟨hc0, hc0⟩ | exact ⟨hc0, hc0, hc0⟩) ?_)) | skip); first | exact shr_one _ | exact IntWalk.i64_in _ (by omega) | exact IntWalk.u8_in _ (by omega) | exact ⟨by omega, IntWalk.i64_quo _ _ ⟨by omega, by omega, by omega⟩⟩ | exact ⟨by omega, IntWalk.rem_in _ _ (by omega)⟩ | exact IntWalk.u64_in _ (by omega) | exact IntWalk.i32_in _ (by omega) | exact rfl | exact ⟨by omega, rfl⟩ | exact ⟨by omega, (by decide), IntWalk.i64_in _ (by omega)⟩ | exact ⟨by omega, (by decide), rfl⟩ | exact ⟨by omega, (by show _ ≤ (64 : Int); omega), rfl⟩ | exact hc0 | exact ⟨hc0, hc0⟩ | exact ⟨hc0, hc0, hc0⟩ | (simp only [Bool.and_eq_true] at hc0; simp [hc0]; done) | (simp_all; done))))
      | ((with_reducible apply IdxE.go); (conv => whnf); (with_reducible apply SideD.mk); (focus ((first | (intro hc; have hc0 := hc; (try simp only [SPLT] at hc); (try refine And.intro (by first | exact hc0 | exact ⟨hc0, hc0⟩ | exact ⟨hc0, hc0, hc0⟩) ?_)) | skip); first | exact idx_nat (by assumption) | exact idx_some (by omega) (by assumption) | exact idx_eq (by assumption) (by omega) | exact hc0 | exact ⟨hc0, hc0⟩ | exact ⟨hc0, hc0, hc0⟩ | (simp only [Bool.and_eq_true] at hc0; simp [hc0]; done) | (simp_all; done))))
      | ((with_reducible apply TextE.go); (conv => whnf); (with_reducible apply SideD.mk); (focus ((first | (intro hc; have hc0 := hc; (try simp only [SPLT] at hc); (try refine And.intro (by first | exact hc0 | exact ⟨hc0, hc0⟩ | exact ⟨hc0, hc0, hc0⟩) ?_)) | skip); first | exact rfl | assumption | exact hc0 | exact ⟨hc0, hc0⟩ | exact ⟨hc0, hc0, hc0⟩ | (simp only [Bool.and_eq_true] at hc0; simp [hc0]; done) | (simp_all; done))))
      | ((with_reducible apply LookE.go); (conv => whnf); (with_reducible apply SideD.mk); (focus ((first | (intro hc; have hc0 := hc; (try simp only [SPLT] at hc); (try refine And.intro (by first | exact hc0 | exact ⟨hc0, hc0⟩ | exact ⟨hc0, hc0, hc0⟩) ?_)) | skip); first | exact ⟨rfl, rfl⟩ | exact rfl | exact hc0 | exact ⟨hc0, hc0⟩ | exact ⟨hc0, hc0, hc0⟩ | (simp only [Bool.and_eq_true] at hc0; simp [hc0]; done) | (simp_all; done))))
      | ((with_reducible apply CallE.go); (conv => whnf); (with_reducible apply SideD.mk); (focus ((first | (intro hc; have hc0 := hc; (try simp only [SPLT] at hc); (try refine And.intro (by first | exact hc0 | exact ⟨hc0, hc0⟩ | exact ⟨hc0, hc0, hc0⟩) ?_)) | skip); first | ((try apply givesl); (focus (first | ((apply gives_go (checkSeries19_sem )); (focus (first | exact DLes.refl _ | (repeat (first | exact DLes.nil | ((apply DLes.cons); (focus (first | exact DLe.refl _ | exact DLe.own _ _ | exact DLe.nil _ _ | exact DLe.any _))))))); (focus exact rfl); (all_goals (first | exact rfl | assumption | omega | (simp; omega) | (simp; done)))) | ((apply gives_go (isOf19_sem )); (focus (first | exact DLes.refl _ | (repeat (first | exact DLes.nil | ((apply DLes.cons); (focus (first | exact DLe.refl _ | exact DLe.own _ _ | exact DLe.nil _ _ | exact DLe.any _))))))); (focus exact rfl); (all_goals (first | exact rfl | assumption | omega | (simp; omega) | (simp; done)))))); (all_goals exact rfl)) | exact hc0 | exact ⟨hc0, hc0⟩ | exact ⟨hc0, hc0, hc0⟩ | (simp only [Bool.and_eq_true] at hc0; simp [hc0]; done) | (simp_all; done))))
      | ((with_reducible apply CallO.go); (conv => whnf); (with_reducible apply SideD.mk); (focus (first | fail)))
      | ((with_reducible apply SideD.mk); (focus ((first | (intro hc; have hc0 := hc; (try simp only [SPLT] at hc); (try refine And.intro (by first | exact hc0 | exact ⟨hc0, hc0⟩ | exact ⟨hc0, hc0, hc0⟩) ?_)) | skip); first | exact ⟨by omega, by omega⟩ | omega | exact ⟨rfl, rfl, by simp only [List.length_map, List.length_append, List.length_cons, List.length_nil]; omega⟩ | exact ⟨rfl, rfl, by simp; omega⟩ | exact ⟨rfl, rfl, by omega⟩ | exact ⟨rfl, by simp; omega⟩ | exact id | (intro h; simp [h]; done) | ((repeat (first | exact trivial | exact rfl | apply And.intro)); done) | (simp; omega) | (refine ⟨?_, ?_, ?_⟩ <;> (simp; omega)) | (refine ⟨?_, ?_, ?_⟩ <;> first | omega | (simp; done) | (simp; omega)) | exact hc0 | exact ⟨hc0, hc0⟩ | exact ⟨hc0, hc0, hc0⟩ | (simp only [Bool.and_eq_true] at hc0; simp [hc0]; done) | (simp_all; done))))
      | ((with_reducible apply DrawR.go0); (focus kernel_rfl))
      | ((with_reducible apply KerB.mk); (focus kernel_rfl))
      | with_reducible apply ends_ret
      | with_reducible apply ends_norm
      | with_reducible apply Halt'.mk
      | ((with_reducible apply CondD.mk) <;> intro hb <;> (try simp only [SPLT] at hb) <;> (try first | contradiction | exact absurd hb (by assumption) | exact absurd (by assumption) hb | (exfalso; omega))))
  all_goals (try exact (false : Bool))
  repeat' ((conv => whnf); first | exact trivial | with_reducible apply And.intro | with_reducible apply endsO_ret | with_reducible apply endsO_norm | exact DLes.nil | with_reducible exact DLe.refl _ | exact DLe.any _ | with_reducible apply DLes.cons | with_reducible exact rle_refl | exact rle_bool rfl | exact rle_int rfl | exact rle_nil rfl | exact rle_sl0 rfl)
  all_goals (conv => whnf)
theorem awake_sem : Sem Tryd.prog 9 [] (.bool true) := by
  refine sem_intro (M := fun t => mem t []) hT hM Tryd.func9 inferInstance rfl rfl rfl rfl rfl rfl ?_
  repeat' (
    (conv => whnf)
    first
      | ((with_reducible apply NumE.go); (conv => whnf); (with_reducible apply SideD.mk); (focus ((first | (intro hc; have hc0 := hc; (try simp only [SPLT] at hc); (try refine And.intro (by first | exact hc0 | exact ⟨hc0, hc0⟩ | exact ⟨hc0, hc0, hc0⟩) ?_)) | skip); first | exact shr_one _ | exact IntWalk.i64_in _ (by omega) | exact IntWalk.u8_in _ (by omega) | exact ⟨by omega, IntWalk.i64_quo _ _ ⟨by omega, by omega, by omega⟩⟩ | exact ⟨by omega, IntWalk.rem_in _ _ (by omega)⟩ | exact IntWalk.u64_in _ (by omega) | exact IntWalk.i32_in _ (by omega) | exact rfl | exact ⟨by omega, rfl⟩ | exact ⟨by omega, (by decide), IntWalk.i64_in _ (by omega)⟩ | exact ⟨by omega, (by decide), rfl⟩ | exact ⟨by omega, (by show _ ≤ (64 : Int); omega), rfl⟩ | exact hc0 | exact ⟨hc0, hc0⟩ | exact ⟨hc0, hc0, hc0⟩ | (simp only [Bool.and_eq_true] at hc0; simp [hc0]; done) | (simp_all; done))))
      | ((with_reducible apply IdxE.go); (conv => whnf); (with_reducible apply SideD.mk); (focus ((first | (intro hc; have hc0 := hc; (try simp only [SPLT] at hc); (try refine And.intro (by first | exact hc0 | exact ⟨hc0, hc0⟩ | exact ⟨hc0, hc0, hc0⟩) ?_)) | skip); first | exact idx_nat (by assumption) | exact idx_some (by omega) (by assumption) | exact idx_eq (by assumption) (by omega) | exact hc0 | exact ⟨hc0, hc0⟩ | exact ⟨hc0, hc0, hc0⟩ | (simp only [Bool.and_eq_true] at hc0; simp [hc0]; done) | (simp_all; done))))
      | ((with_reducible apply TextE.go); (conv => whnf); (with_reducible apply SideD.mk); (focus ((first | (intro hc; have hc0 := hc; (try simp only [SPLT] at hc); (try refine And.intro (by first | exact hc0 | exact ⟨hc0, hc0⟩ | exact ⟨hc0, hc0, hc0⟩) ?_)) | skip); first | exact rfl | assumption | exact hc0 | exact ⟨hc0, hc0⟩ | exact ⟨hc0, hc0, hc0⟩ | (simp only [Bool.and_eq_true] at hc0; simp [hc0]; done) | (simp_all; done))))
      | ((with_reducible apply LookE.go); (conv => whnf); (with_reducible apply SideD.mk); (focus ((first | (intro hc; have hc0 := hc; (try simp only [SPLT] at hc); (try refine And.intro (by first | exact hc0 | exact ⟨hc0, hc0⟩ | exact ⟨hc0, hc0, hc0⟩) ?_)) | skip); first | exact ⟨rfl, rfl⟩ | exact rfl | exact hc0 | exact ⟨hc0, hc0⟩ | exact ⟨hc0, hc0, hc0⟩ | (simp only [Bool.and_eq_true] at hc0; simp [hc0]; done) | (simp_all; done))))
      | ((with_reducible apply CallE.go); (conv => whnf); (with_reducible apply SideD.mk); (focus ((first | (intro hc; have hc0 := hc; (try simp only [SPLT] at hc); (try refine And.intro (by first | exact hc0 | exact ⟨hc0, hc0⟩ | exact ⟨hc0, hc0, hc0⟩) ?_)) | skip); first | ((try apply givesl); (focus (first | ((apply gives_go (next19_sem )); (focus (first | exact DLes.refl _ | (repeat (first | exact DLes.nil | ((apply DLes.cons); (focus (first | exact DLe.refl _ | exact DLe.own _ _ | exact DLe.nil _ _ | exact DLe.any _))))))); (focus exact rfl); (all_goals (first | exact rfl | assumption | omega | (simp; omega) | (simp; done)))))); (all_goals exact rfl)) | exact hc0 | exact ⟨hc0, hc0⟩ | exact ⟨hc0, hc0, hc0⟩ | (simp only [Bool.and_eq_true] at hc0; simp [hc0]; done) | (simp_all; done))))
      | ((with_reducible apply CallO.go); (conv => whnf); (with_reducible apply SideD.mk); (focus (first | fail)))
      | ((with_reducible apply SideD.mk); (focus ((first | (intro hc; have hc0 := hc; (try simp only [SPLT] at hc); (try refine And.intro (by first | exact hc0 | exact ⟨hc0, hc0⟩ | exact ⟨hc0, hc0, hc0⟩) ?_)) | skip); first | exact ⟨by omega, by omega⟩ | omega | exact ⟨rfl, rfl, by simp only [List.length_map, List.length_append, List.length_cons, List.length_nil]; omega⟩ | exact ⟨rfl, rfl, by simp; omega⟩ | exact ⟨rfl, rfl, by omega⟩ | exact ⟨rfl, by simp; omega⟩ | exact id | (intro h; simp [h]; done) | ((repeat (first | exact trivial | exact rfl | apply And.intro)); done) | (simp; omega) | (refine ⟨?_, ?_, ?_⟩ <;> (simp; omega)) | (refine ⟨?_, ?_, ?_⟩ <;> first | omega | (simp; done) | (simp; omega)) | exact hc0 | exact ⟨hc0, hc0⟩ | exact ⟨hc0, hc0, hc0⟩ | (simp only [Bool.and_eq_true] at hc0; simp [hc0]; done) | (simp_all; done))))
      | ((with_reducible apply DrawR.go0); (focus kernel_rfl))
      | ((with_reducible apply KerB.mk); (focus kernel_rfl))
      | with_reducible apply ends_ret
      | with_reducible apply ends_norm
      | with_reducible apply Halt'.mk
      | ((with_reducible apply CondD.mk) <;> intro hb <;> (try simp only [SPLT] at hb) <;> (try first | contradiction | exact absurd hb (by assumption) | exact absurd (by assumption) hb | (exfalso; omega))))
  all_goals (try exact (false : Bool))
  repeat' ((conv => whnf); first | exact trivial | with_reducible apply And.intro | with_reducible apply endsO_ret | with_reducible apply endsO_norm | exact DLes.nil | with_reducible exact DLe.refl _ | exact DLe.any _ | with_reducible apply DLes.cons | with_reducible exact rle_refl | exact rle_bool rfl | exact rle_int rfl | exact rle_nil rfl | exact rle_sl0 rfl)
  all_goals (conv => whnf)
theorem idx_at {a : Adr} : ∀ {l : List Adr} {k : Nat}, l[k]? = some a → a ∉ l.take k → l.idxOf a = k
  | [], k, h, _ => by simp at h
  | b :: l, 0, h, _ => by cases h; simp
  | b :: l, k + 1, h, hn => by
    simp only [List.take_succ_cons, List.mem_cons, not_or] at hn
    have ih := idx_at (l := l) (k := k) (by simpa using h) hn.2
    rw [List.idxOf_cons]
    have : (b == a) = false := by simpa using fun e => hn.1 e.symm
    rw [this, ih]
    rfl
/-- What is known of partners that are looked through. -/
structure Thru (l : List Par) (R : Int) (k : Nat) : Prop where
  le : k ≤ l.length
  rest : parsN (seenAt l k) (prevAt l k) (l.drop k) = R
  few : (seenAt l k).length ≤ 10 * k
theorem nof {k : Nat} {a b : Bool} (h : (k : Int) ≤ 0 ∨ a = false ∧ ¬ b = true) : ¬ (decide (0 < (k : Int)) && (a || b)) = true := by
  simp only [Bool.and_eq_true, Bool.or_eq_true, decide_eq_true_eq]
  rintro ⟨h1, h2⟩
  rcases h with h | ⟨h3, h4⟩
  · omega
  · rcases h2 with h2 | h2
    · rw [h3] at h2; cases h2
    · exact h4 h2
theorem CheckPartners_sem (l : List Par) (hok : ∀ p ∈ l, p.Ok) : Sem Tryd.prog 64 [.sl 0 2 (l.map Par.row)] (.int .i64 (partnersN l)) := by
  refine sem_intro (M := fun t => mem t [5, 2000005]) hT hM Tryd.func64 inferInstance rfl rfl rfl rfl rfl rfl ?_
  repeat' (
    (conv => whnf)
    first
      | ((with_reducible apply NumE.go); (conv => whnf); (with_reducible apply SideD.mk); (focus ((first | (intro hc; have hc0 := hc; (try simp only [SPLT] at hc); (try refine And.intro (by first | exact hc0 | exact ⟨hc0, hc0⟩ | exact ⟨hc0, hc0, hc0⟩) ?_)) | skip); first | exact shr_one _ | exact IntWalk.i64_in _ (by omega) | exact IntWalk.u8_in _ (by omega) | exact ⟨by omega, IntWalk.i64_quo _ _ ⟨by omega, by omega, by omega⟩⟩ | exact ⟨by omega, IntWalk.rem_in _ _ (by omega)⟩ | exact IntWalk.u64_in _ (by omega) | exact IntWalk.i32_in _ (by omega) | exact rfl | exact ⟨by omega, rfl⟩ | exact ⟨by omega, (by decide), IntWalk.i64_in _ (by omega)⟩ | exact ⟨by omega, (by decide), rfl⟩ | exact ⟨by omega, (by show _ ≤ (64 : Int); omega), rfl⟩ | exact hc0 | exact ⟨hc0, hc0⟩ | exact ⟨hc0, hc0, hc0⟩ | (simp only [Bool.and_eq_true] at hc0; simp [hc0]; done) | (simp_all; done))))
      | ((with_reducible apply IdxE.go); (conv => whnf); (with_reducible apply SideD.mk); (focus ((first | (intro hc; have hc0 := hc; (try simp only [SPLT] at hc); (try refine And.intro (by first | exact hc0 | exact ⟨hc0, hc0⟩ | exact ⟨hc0, hc0, hc0⟩) ?_)) | skip); first | exact idx_nat (by assumption) | exact idx_some (by omega) (by assumption) | exact idx_eq (by assumption) (by omega) | exact hc0 | exact ⟨hc0, hc0⟩ | exact ⟨hc0, hc0, hc0⟩ | (simp only [Bool.and_eq_true] at hc0; simp [hc0]; done) | (simp_all; done))))
      | ((with_reducible apply TextE.go); (conv => whnf); (with_reducible apply SideD.mk); (focus ((first | (intro hc; have hc0 := hc; (try simp only [SPLT] at hc); (try refine And.intro (by first | exact hc0 | exact ⟨hc0, hc0⟩ | exact ⟨hc0, hc0, hc0⟩) ?_)) | skip); first | exact rfl | assumption | exact hc0 | exact ⟨hc0, hc0⟩ | exact ⟨hc0, hc0, hc0⟩ | (simp only [Bool.and_eq_true] at hc0; simp [hc0]; done) | (simp_all; done))))
      | ((with_reducible apply LookE.go); (conv => whnf); (with_reducible apply SideD.mk); (focus ((first | (intro hc; have hc0 := hc; (try simp only [SPLT] at hc); (try refine And.intro (by first | exact hc0 | exact ⟨hc0, hc0⟩ | exact ⟨hc0, hc0, hc0⟩) ?_)) | skip); first | exact ⟨rfl, rfl⟩ | exact rfl | exact hc0 | exact ⟨hc0, hc0⟩ | exact ⟨hc0, hc0, hc0⟩ | (simp only [Bool.and_eq_true] at hc0; simp [hc0]; done) | (simp_all; done))))
      | ((with_reducible apply CallE.go); (conv => whnf); (with_reducible apply SideD.mk); (focus ((first | (intro hc; have hc0 := hc; (try simp only [SPLT] at hc); (try refine And.intro (by first | exact hc0 | exact ⟨hc0, hc0⟩ | exact ⟨hc0, hc0, hc0⟩) ?_)) | skip); first | ((try apply givesl); (focus (first | ((apply gives_go (isName_sem _ _)); (focus (first | exact DLes.refl _ | (repeat (first | exact DLes.nil | ((apply DLes.cons); (focus (first | exact DLe.refl _ | exact DLe.own _ _ | exact DLe.nil _ _ | exact DLe.any _))))))); (focus exact rfl); (all_goals (first | exact rfl | assumption | omega | (simp; omega) | (simp; done)))) | ((apply gives_go (addressFault_sem _ _)); (focus (first | exact DLes.refl _ | (repeat (first | exact DLes.nil | ((apply DLes.cons); (focus (first | exact DLe.refl _ | exact DLe.own _ _ | exact DLe.nil _ _ | exact DLe.any _))))))); (focus exact rfl); (all_goals (first | exact rfl | assumption | omega | (simp; omega) | (simp; done)))))); (all_goals exact rfl)) | exact hc0 | exact ⟨hc0, hc0⟩ | exact ⟨hc0, hc0, hc0⟩ | (simp only [Bool.and_eq_true] at hc0; simp [hc0]; done) | (simp_all; done))))
      | ((with_reducible apply CallO.go); (conv => whnf); (with_reducible apply SideD.mk); (focus (first | fail)))
      | ((with_reducible apply SideD.mk); (focus ((first | (intro hc; have hc0 := hc; (try simp only [SPLT] at hc); (try refine And.intro (by first | exact hc0 | exact ⟨hc0, hc0⟩ | exact ⟨hc0, hc0, hc0⟩) ?_)) | skip); first | exact ⟨by omega, by omega⟩ | omega | exact ⟨rfl, rfl, by simp only [List.length_map, List.length_append, List.length_cons, List.length_nil]; omega⟩ | exact ⟨rfl, rfl, by simp; omega⟩ | exact ⟨rfl, rfl, by omega⟩ | exact ⟨rfl, by simp; omega⟩ | exact id | (intro h; simp [h]; done) | ((repeat (first | exact trivial | exact rfl | apply And.intro)); done) | (simp; omega) | (refine ⟨?_, ?_, ?_⟩ <;> (simp; omega)) | (refine ⟨?_, ?_, ?_⟩ <;> first | omega | (simp; done) | (simp; omega)) | exact hc0 | exact ⟨hc0, hc0⟩ | exact ⟨hc0, hc0, hc0⟩ | (simp only [Bool.and_eq_true] at hc0; simp [hc0]; done) | (simp_all; done))))
      | ((with_reducible apply DrawR.go0); (focus kernel_rfl))
      | ((with_reducible apply KerB.mk); (focus kernel_rfl))
      | with_reducible apply ends_ret
      | with_reducible apply ends_norm
      | with_reducible apply Halt'.mk
      | ((with_reducible apply CondD.mk) <;> intro hb <;> (try simp only [SPLT] at hb) <;> (try first | contradiction | exact absurd hb (by assumption) | exact absurd (by assumption) hb | (exfalso; omega))))
  all_goals (try exact (false : Bool))
  · repeat' ((conv => whnf); first | exact trivial | with_reducible apply And.intro | with_reducible apply endsO_ret | with_reducible apply endsO_norm | exact DLes.nil | with_reducible exact DLe.refl _ | exact DLe.any _ | with_reducible apply DLes.cons | with_reducible exact rle_refl | exact rle_bool rfl | exact rle_int rfl | exact rle_nil rfl | exact rle_sl0 rfl)
    all_goals (conv => whnf)
    exact rle_int (by rw [partnersN, if_pos (by omega)])
  · have hR : partnersN l = parsN [] none l := by rw [partnersN, if_neg (by omega)]
    refine loop_go (M := fun t => mem t [5, 2000005]) hT hM (fun k : Nat => [(15, .int .i64 k), (3, .mp (.st [1, 1]) (seenM (seenAt l k)))]) (fun k => Thru l (partnersN l) k) (fun k => l.length - k) (0) ?_ ?_ ?_
    · (conv => whnf)
      refine ⟨?_, by rfl⟩
      repeat' ((conv => whnf); first | exact DLes.nil | with_reducible exact DLe.refl _ | exact DLe.any _ | with_reducible apply DLes.cons | exact DLe.refl _ | exact dle_int (by omega) | exact dle_nil rfl | exact DLe.own _ _)
    · exact ⟨Nat.zero_le _, hR.symm, by simp [seenAt]⟩
    · rintro k ⟨hk, hrest, hfew⟩
      rcases hx : l[k]? with _ | p
      · have hk' : k = l.length := by have := List.getElem?_eq_none_iff.1 hx; omega
        subst hk'
        repeat' (
          (conv => whnf)
          first
            | ((with_reducible apply NumE.go); (conv => whnf); (with_reducible apply SideD.mk); (focus ((first | (intro hc; have hc0 := hc; (try simp only [SPLT] at hc); (try refine And.intro (by first | exact hc0 | exact ⟨hc0, hc0⟩ | exact ⟨hc0, hc0, hc0⟩) ?_)) | skip); first | exact shr_one _ | exact IntWalk.i64_in _ (by omega) | exact IntWalk.u8_in _ (by omega) | exact ⟨by omega, IntWalk.i64_quo _ _ ⟨by omega, by omega, by omega⟩⟩ | exact ⟨by omega, IntWalk.rem_in _ _ (by omega)⟩ | exact IntWalk.u64_in _ (by omega) | exact IntWalk.i32_in _ (by omega) | exact rfl | exact ⟨by omega, rfl⟩ | exact ⟨by omega, (by decide), IntWalk.i64_in _ (by omega)⟩ | exact ⟨by omega, (by decide), rfl⟩ | exact ⟨by omega, (by show _ ≤ (64 : Int); omega), rfl⟩ | exact hc0 | exact ⟨hc0, hc0⟩ | exact ⟨hc0, hc0, hc0⟩ | (simp only [Bool.and_eq_true] at hc0; simp [hc0]; done) | (simp_all; done))))
            | ((with_reducible apply IdxE.go); (conv => whnf); (with_reducible apply SideD.mk); (focus ((first | (intro hc; have hc0 := hc; (try simp only [SPLT] at hc); (try refine And.intro (by first | exact hc0 | exact ⟨hc0, hc0⟩ | exact ⟨hc0, hc0, hc0⟩) ?_)) | skip); first | exact idx_nat (by assumption) | exact idx_some (by omega) (by assumption) | exact idx_eq (by assumption) (by omega) | exact hc0 | exact ⟨hc0, hc0⟩ | exact ⟨hc0, hc0, hc0⟩ | (simp only [Bool.and_eq_true] at hc0; simp [hc0]; done) | (simp_all; done))))
            | ((with_reducible apply TextE.go); (conv => whnf); (with_reducible apply SideD.mk); (focus ((first | (intro hc; have hc0 := hc; (try simp only [SPLT] at hc); (try refine And.intro (by first | exact hc0 | exact ⟨hc0, hc0⟩ | exact ⟨hc0, hc0, hc0⟩) ?_)) | skip); first | exact rfl | assumption | exact hc0 | exact ⟨hc0, hc0⟩ | exact ⟨hc0, hc0, hc0⟩ | (simp only [Bool.and_eq_true] at hc0; simp [hc0]; done) | (simp_all; done))))
            | ((with_reducible apply LookE.go); (conv => whnf); (with_reducible apply SideD.mk); (focus ((first | (intro hc; have hc0 := hc; (try simp only [SPLT] at hc); (try refine And.intro (by first | exact hc0 | exact ⟨hc0, hc0⟩ | exact ⟨hc0, hc0, hc0⟩) ?_)) | skip); first | exact ⟨rfl, rfl⟩ | exact rfl | exact hc0 | exact ⟨hc0, hc0⟩ | exact ⟨hc0, hc0, hc0⟩ | (simp only [Bool.and_eq_true] at hc0; simp [hc0]; done) | (simp_all; done))))
            | ((with_reducible apply CallE.go); (conv => whnf); (with_reducible apply SideD.mk); (focus ((first | (intro hc; have hc0 := hc; (try simp only [SPLT] at hc); (try refine And.intro (by first | exact hc0 | exact ⟨hc0, hc0⟩ | exact ⟨hc0, hc0, hc0⟩) ?_)) | skip); first | ((try apply givesl); (focus (first | ((apply gives_go (isName_sem _ _)); (focus (first | exact DLes.refl _ | (repeat (first | exact DLes.nil | ((apply DLes.cons); (focus (first | exact DLe.refl _ | exact DLe.own _ _ | exact DLe.nil _ _ | exact DLe.any _))))))); (focus exact rfl); (all_goals (first | exact rfl | assumption | omega | (simp; omega) | (simp; done)))) | ((apply gives_go (addressFault_sem _ _)); (focus (first | exact DLes.refl _ | (repeat (first | exact DLes.nil | ((apply DLes.cons); (focus (first | exact DLe.refl _ | exact DLe.own _ _ | exact DLe.nil _ _ | exact DLe.any _))))))); (focus exact rfl); (all_goals (first | exact rfl | assumption | omega | (simp; omega) | (simp; done)))))); (all_goals exact rfl)) | exact hc0 | exact ⟨hc0, hc0⟩ | exact ⟨hc0, hc0, hc0⟩ | (simp only [Bool.and_eq_true] at hc0; simp [hc0]; done) | (simp_all; done))))
            | ((with_reducible apply CallO.go); (conv => whnf); (with_reducible apply SideD.mk); (focus (first | fail)))
            | ((with_reducible apply SideD.mk); (focus ((first | (intro hc; have hc0 := hc; (try simp only [SPLT] at hc); (try refine And.intro (by first | exact hc0 | exact ⟨hc0, hc0⟩ | exact ⟨hc0, hc0, hc0⟩) ?_)) | skip); first | exact ⟨by omega, by omega⟩ | omega | exact ⟨rfl, rfl, by simp only [List.length_map, List.length_append, List.length_cons, List.length_nil]; omega⟩ | exact ⟨rfl, rfl, by simp; omega⟩ | exact ⟨rfl, rfl, by omega⟩ | exact ⟨rfl, by simp; omega⟩ | exact id | (intro h; simp [h]; done) | ((repeat (first | exact trivial | exact rfl | apply And.intro)); done) | (simp; omega) | (refine ⟨?_, ?_, ?_⟩ <;> (simp; omega)) | (refine ⟨?_, ?_, ?_⟩ <;> first | omega | (simp; done) | (simp; omega)) | exact hc0 | exact ⟨hc0, hc0⟩ | exact ⟨hc0, hc0, hc0⟩ | (simp only [Bool.and_eq_true] at hc0; simp [hc0]; done) | (simp_all; done))))
            | ((with_reducible apply DrawR.go0); (focus kernel_rfl))
            | ((with_reducible apply KerB.mk); (focus kernel_rfl))
            | with_reducible apply ends_ret
            | with_reducible apply ends_norm
            | with_reducible apply Halt'.mk
            | ((with_reducible apply CondD.mk) <;> intro hb <;> (try simp only [SPLT] at hb) <;> (try first | contradiction | exact absurd hb (by assumption) | exact absurd (by assumption) hb | (exfalso; omega))))
        all_goals (try exact (false : Bool))
        repeat' ((conv => whnf); first | exact trivial | with_reducible apply And.intro | with_reducible apply endsO_ret | with_reducible apply endsO_norm | exact DLes.nil | with_reducible exact DLe.refl _ | exact DLe.any _ | with_reducible apply DLes.cons | with_reducible exact rle_refl | exact rle_bool rfl | exact rle_int rfl | exact rle_nil rfl | exact rle_sl0 rfl)
        all_goals (conv => whnf)
        refine rle_int ?_
        rw [← hrest, List.drop_length]
        rfl
      · have hlt := (List.getElem?_eq_some_iff.1 hx).1
        obtain ⟨hpn, hpa⟩ := hok p (List.mem_of_getElem? hx)
        have hat := parsN_at (seen := seenAt l k) (prev := prevAt l k) hx
        rw [hrest] at hat
        obtain ⟨q, hq⟩ : ∃ q : Par, 0 < k → l[k - 1]? = some q := ⟨l[k - 1]?.getD p, fun h => by rw [List.getElem?_eq_getElem (by omega)]; rfl⟩
        have hpv : notAfter (prevAt l k) p.name = (decide (0 < (k : Int)) && (Op.bytesLess p.name q.name || p.name == q.name)) := by
          cases k with
          | zero => rfl
          | succ j =>
            have := hq (by omega)
            simp only [Nat.add_sub_cancel] at this
            simp only [prevAt, this, Option.map_some, notAfter]
            rw [decide_eq_true (by omega), Bool.true_and]
        rw [hpv] at hat
        repeat' (
          (conv => whnf)
          first
            | ((with_reducible apply NumE.go); (conv => whnf); (with_reducible apply SideD.mk); (focus ((first | (intro hc; have hc0 := hc; (try simp only [SPLT] at hc); (try refine And.intro (by first | exact hc0 | exact ⟨hc0, hc0⟩ | exact ⟨hc0, hc0, hc0⟩) ?_)) | skip); first | exact shr_one _ | exact IntWalk.i64_in _ (by omega) | exact IntWalk.u8_in _ (by omega) | exact ⟨by omega, IntWalk.i64_quo _ _ ⟨by omega, by omega, by omega⟩⟩ | exact ⟨by omega, IntWalk.rem_in _ _ (by omega)⟩ | exact IntWalk.u64_in _ (by omega) | exact IntWalk.i32_in _ (by omega) | exact rfl | exact ⟨by omega, rfl⟩ | exact ⟨by omega, (by decide), IntWalk.i64_in _ (by omega)⟩ | exact ⟨by omega, (by decide), rfl⟩ | exact ⟨by omega, (by show _ ≤ (64 : Int); omega), rfl⟩ | exact hc0 | exact ⟨hc0, hc0⟩ | exact ⟨hc0, hc0, hc0⟩ | (simp only [Bool.and_eq_true] at hc0; simp [hc0]; done) | (simp_all; done))))
            | ((with_reducible apply IdxE.go); (conv => whnf); (with_reducible apply SideD.mk); (focus ((first | (intro hc; have hc0 := hc; (try simp only [SPLT] at hc); (try refine And.intro (by first | exact hc0 | exact ⟨hc0, hc0⟩ | exact ⟨hc0, hc0, hc0⟩) ?_)) | skip); first | exact idx_nat (by assumption) | exact idx_some (by omega) (by assumption) | exact idx_eq (by assumption) (by omega) | exact idx_eq (hq (by omega)) (by omega) | exact hc0 | exact ⟨hc0, hc0⟩ | exact ⟨hc0, hc0, hc0⟩ | (simp only [Bool.and_eq_true] at hc0; simp [hc0]; done) | (simp_all; done))))
            | ((with_reducible apply TextE.go); (conv => whnf); (with_reducible apply SideD.mk); (focus ((first | (intro hc; have hc0 := hc; (try simp only [SPLT] at hc); (try refine And.intro (by first | exact hc0 | exact ⟨hc0, hc0⟩ | exact ⟨hc0, hc0, hc0⟩) ?_)) | skip); first | exact rfl | assumption | (exact idx_eq (hq (by omega)) (by omega)) | exact hc0 | exact ⟨hc0, hc0⟩ | exact ⟨hc0, hc0, hc0⟩ | (simp only [Bool.and_eq_true] at hc0; simp [hc0]; done) | (simp_all; done))))
            | ((with_reducible apply LookE.go); (conv => whnf); (with_reducible apply SideD.mk); (focus ((first | (intro hc; have hc0 := hc; (try simp only [SPLT] at hc); (try refine And.intro (by first | exact hc0 | exact ⟨hc0, hc0⟩ | exact ⟨hc0, hc0, hc0⟩) ?_)) | skip); first | (exact idx_eq (hq (by omega)) (by omega)) | exact ⟨rfl, rfl⟩ | exact rfl | exact hc0 | exact ⟨hc0, hc0⟩ | exact ⟨hc0, hc0, hc0⟩ | (simp only [Bool.and_eq_true] at hc0; simp [hc0]; done) | (simp_all; done))))
            | ((with_reducible apply CallE.go); (conv => whnf); (with_reducible apply SideD.mk); (focus ((first | (intro hc; have hc0 := hc; (try simp only [SPLT] at hc); (try refine And.intro (by first | exact hc0 | exact ⟨hc0, hc0⟩ | exact ⟨hc0, hc0, hc0⟩) ?_)) | skip); first | ((try apply givesl); (focus (first | ((apply gives_go (isName_sem _ _)); (focus (first | exact DLes.refl _ | (repeat (first | exact DLes.nil | ((apply DLes.cons); (focus (first | exact DLe.refl _ | exact DLe.own _ _ | exact DLe.nil _ _ | exact DLe.any _))))))); (focus exact rfl); (all_goals (first | exact rfl | assumption | omega | (simp; omega) | (simp; done)))) | ((apply gives_go (addressFault_sem _ _)); (focus (first | exact DLes.refl _ | (repeat (first | exact DLes.nil | ((apply DLes.cons); (focus (first | exact DLe.refl _ | exact DLe.own _ _ | exact DLe.nil _ _ | exact DLe.any _))))))); (focus exact rfl); (all_goals (first | exact rfl | assumption | omega | (simp; omega) | (simp; done)))))); (all_goals exact rfl)) | exact hc0 | exact ⟨hc0, hc0⟩ | exact ⟨hc0, hc0, hc0⟩ | (simp only [Bool.and_eq_true] at hc0; simp [hc0]; done) | (simp_all; done))))
            | ((with_reducible apply CallO.go); (conv => whnf); (with_reducible apply SideD.mk); (focus (first | fail)))
            | ((with_reducible apply SideD.mk); (focus ((first | (intro hc; have hc0 := hc; (try simp only [SPLT] at hc); (try refine And.intro (by first | exact hc0 | exact ⟨hc0, hc0⟩ | exact ⟨hc0, hc0, hc0⟩) ?_)) | skip); first | exact ⟨by omega, by omega⟩ | omega | exact ⟨rfl, rfl, by simp only [List.length_map, List.length_append, List.length_cons, List.length_nil]; omega⟩ | exact ⟨rfl, rfl, by simp; omega⟩ | exact ⟨rfl, rfl, by omega⟩ | exact ⟨rfl, by simp; omega⟩ | exact id | (intro h; simp [h]; done) | ((repeat (first | exact trivial | exact rfl | apply And.intro)); done) | (simp; omega) | (refine ⟨?_, ?_, ?_⟩ <;> (simp; omega)) | (refine ⟨?_, ?_, ?_⟩ <;> first | omega | (simp; done) | (simp; omega)) | exact hc0 | exact ⟨hc0, hc0⟩ | exact ⟨hc0, hc0, hc0⟩ | (simp only [Bool.and_eq_true] at hc0; simp [hc0]; done) | (simp_all; done))))
            | ((with_reducible apply DrawR.go0); (focus kernel_rfl))
            | ((with_reducible apply KerB.mk); (focus kernel_rfl))
            | with_reducible apply ends_ret
            | with_reducible apply ends_norm
            | with_reducible apply Halt'.mk
            | ((with_reducible apply CondD.mk) <;> intro hb <;> (try simp only [SPLT] at hb) <;> (try first | contradiction | exact absurd hb (by assumption) | exact absurd (by assumption) hb | (exfalso; omega))))
        all_goals (try exact (false : Bool))
        · repeat' ((conv => whnf); first | exact trivial | with_reducible apply And.intro | with_reducible apply endsO_ret | with_reducible apply endsO_norm | exact DLes.nil | with_reducible exact DLe.refl _ | exact DLe.any _ | with_reducible apply DLes.cons | with_reducible exact rle_refl | exact rle_bool rfl | exact rle_int rfl | exact rle_nil rfl | exact rle_sl0 rfl)
          all_goals (conv => whnf)
          refine rle_int ?_
          rw [hat, if_pos hb]
        · rename_i hn
          repeat' ((conv => whnf); first | exact trivial | with_reducible apply And.intro | with_reducible apply endsO_ret | with_reducible apply endsO_norm | exact DLes.nil | with_reducible exact DLe.refl _ | exact DLe.any _ | with_reducible apply DLes.cons | with_reducible exact rle_refl | exact rle_bool rfl | exact rle_int rfl | exact rle_nil rfl | exact rle_sl0 rfl)
          all_goals (conv => whnf)
          refine rle_int ?_
          rw [hat, if_neg (by simp [hn]), if_pos (by simpa using hb)]
        · rename_i hn hc
          repeat' ((conv => whnf); first | exact trivial | with_reducible apply And.intro | with_reducible apply endsO_ret | with_reducible apply endsO_norm | exact DLes.nil | with_reducible exact DLe.refl _ | exact DLe.any _ | with_reducible apply DLes.cons | with_reducible exact rle_refl | exact rle_bool rfl | exact rle_int rfl | exact rle_nil rfl | exact rle_sl0 rfl)
          all_goals (conv => whnf)
          refine rle_int ?_
          rw [hat, if_neg (by simp [hn]), if_neg (nof (by simpa using hc)), if_pos (by omega)]
        · rename_i hn hc
          rw [if_neg (by simp [hn]), if_neg (nof (by simpa using hc)), if_neg (by omega)] at hat
          refine loop_go (M := fun t => mem t [7, 2000007]) hT hM (fun j : Nat => [(47, .int .i64 j), (3, .mp (.st [1, 1]) (seenM (seenAt l k ++ p.addrs.take j)))]) (fun j => j ≤ p.addrs.length ∧ adrsN (seenAt l k ++ p.addrs.take j) (p.addrs.drop j) = adrsN (seenAt l k) p.addrs) (fun j => p.addrs.length - j) (0) ?_ ?_ ?_
          · (conv => whnf)
            refine ⟨?_, by rfl⟩
            repeat' ((conv => whnf); first | exact DLes.nil | with_reducible exact DLe.refl _ | exact DLe.any _ | with_reducible apply DLes.cons | exact DLe.refl _ | exact dle_int (by omega) | exact dle_nil rfl | exact DLe.own _ _ | (exact DLe.of_eq (by simp)))
          · exact ⟨Nat.zero_le _, by simp⟩
          · rintro j ⟨hj, hjr⟩
            rcases hy : p.addrs[j]? with _ | a
            · have hj' : j = p.addrs.length := by have := List.getElem?_eq_none_iff.1 hy; omega
              subst hj'
              rw [List.drop_length] at hjr
              have hz : adrsN (seenAt l k) p.addrs = 0 := hjr.symm
              rw [if_neg (by omega)] at hat
              repeat' (
                (conv => whnf)
                first
                  | ((with_reducible apply NumE.go); (conv => whnf); (with_reducible apply SideD.mk); (focus ((first | (intro hc; have hc0 := hc; (try simp only [SPLT] at hc); (try refine And.intro (by first | exact hc0 | exact ⟨hc0, hc0⟩ | exact ⟨hc0, hc0, hc0⟩) ?_)) | skip); first | exact shr_one _ | exact IntWalk.i64_in _ (by omega) | exact IntWalk.u8_in _ (by omega) | exact ⟨by omega, IntWalk.i64_quo _ _ ⟨by omega, by omega, by omega⟩⟩ | exact ⟨by omega, IntWalk.rem_in _ _ (by omega)⟩ | exact IntWalk.u64_in _ (by omega) | exact IntWalk.i32_in _ (by omega) | exact rfl | exact ⟨by omega, rfl⟩ | exact ⟨by omega, (by decide), IntWalk.i64_in _ (by omega)⟩ | exact ⟨by omega, (by decide), rfl⟩ | exact ⟨by omega, (by show _ ≤ (64 : Int); omega), rfl⟩ | exact hc0 | exact ⟨hc0, hc0⟩ | exact ⟨hc0, hc0, hc0⟩ | (simp only [Bool.and_eq_true] at hc0; simp [hc0]; done) | (simp_all; done))))
                  | ((with_reducible apply IdxE.go); (conv => whnf); (with_reducible apply SideD.mk); (focus ((first | (intro hc; have hc0 := hc; (try simp only [SPLT] at hc); (try refine And.intro (by first | exact hc0 | exact ⟨hc0, hc0⟩ | exact ⟨hc0, hc0, hc0⟩) ?_)) | skip); first | exact idx_nat (by assumption) | exact idx_some (by omega) (by assumption) | exact idx_eq (by assumption) (by omega) | exact hc0 | exact ⟨hc0, hc0⟩ | exact ⟨hc0, hc0, hc0⟩ | (simp only [Bool.and_eq_true] at hc0; simp [hc0]; done) | (simp_all; done))))
                  | ((with_reducible apply TextE.go); (conv => whnf); (with_reducible apply SideD.mk); (focus ((first | (intro hc; have hc0 := hc; (try simp only [SPLT] at hc); (try refine And.intro (by first | exact hc0 | exact ⟨hc0, hc0⟩ | exact ⟨hc0, hc0, hc0⟩) ?_)) | skip); first | exact rfl | assumption | exact hc0 | exact ⟨hc0, hc0⟩ | exact ⟨hc0, hc0, hc0⟩ | (simp only [Bool.and_eq_true] at hc0; simp [hc0]; done) | (simp_all; done))))
                  | ((with_reducible apply LookE.go); (conv => whnf); (with_reducible apply SideD.mk); (focus ((first | (intro hc; have hc0 := hc; (try simp only [SPLT] at hc); (try refine And.intro (by first | exact hc0 | exact ⟨hc0, hc0⟩ | exact ⟨hc0, hc0, hc0⟩) ?_)) | skip); first | exact ⟨rfl, rfl⟩ | exact rfl | exact hc0 | exact ⟨hc0, hc0⟩ | exact ⟨hc0, hc0, hc0⟩ | (simp only [Bool.and_eq_true] at hc0; simp [hc0]; done) | (simp_all; done))))
                  | ((with_reducible apply CallE.go); (conv => whnf); (with_reducible apply SideD.mk); (focus ((first | (intro hc; have hc0 := hc; (try simp only [SPLT] at hc); (try refine And.intro (by first | exact hc0 | exact ⟨hc0, hc0⟩ | exact ⟨hc0, hc0, hc0⟩) ?_)) | skip); first | ((try apply givesl); (focus (first | ((apply gives_go (isName_sem _ _)); (focus (first | exact DLes.refl _ | (repeat (first | exact DLes.nil | ((apply DLes.cons); (focus (first | exact DLe.refl _ | exact DLe.own _ _ | exact DLe.nil _ _ | exact DLe.any _))))))); (focus exact rfl); (all_goals (first | exact rfl | assumption | omega | (simp; omega) | (simp; done)))) | ((apply gives_go (addressFault_sem _ _)); (focus (first | exact DLes.refl _ | (repeat (first | exact DLes.nil | ((apply DLes.cons); (focus (first | exact DLe.refl _ | exact DLe.own _ _ | exact DLe.nil _ _ | exact DLe.any _))))))); (focus exact rfl); (all_goals (first | exact rfl | assumption | omega | (simp; omega) | (simp; done)))))); (all_goals exact rfl)) | exact hc0 | exact ⟨hc0, hc0⟩ | exact ⟨hc0, hc0, hc0⟩ | (simp only [Bool.and_eq_true] at hc0; simp [hc0]; done) | (simp_all; done))))
                  | ((with_reducible apply CallO.go); (conv => whnf); (with_reducible apply SideD.mk); (focus (first | fail)))
                  | ((with_reducible apply SideD.mk); (focus ((first | (intro hc; have hc0 := hc; (try simp only [SPLT] at hc); (try refine And.intro (by first | exact hc0 | exact ⟨hc0, hc0⟩ | exact ⟨hc0, hc0, hc0⟩) ?_)) | skip); first | exact ⟨by omega, by omega⟩ | omega | exact ⟨rfl, rfl, by simp only [List.length_map, List.length_append, List.length_cons, List.length_nil]; omega⟩ | exact ⟨rfl, rfl, by simp; omega⟩ | exact ⟨rfl, rfl, by omega⟩ | exact ⟨rfl, by simp; omega⟩ | exact id | (intro h; simp [h]; done) | ((repeat (first | exact trivial | exact rfl | apply And.intro)); done) | (simp; omega) | (refine ⟨?_, ?_, ?_⟩ <;> (simp; omega)) | (refine ⟨?_, ?_, ?_⟩ <;> first | omega | (simp; done) | (simp; omega)) | exact hc0 | exact ⟨hc0, hc0⟩ | exact ⟨hc0, hc0, hc0⟩ | (simp only [Bool.and_eq_true] at hc0; simp [hc0]; done) | (simp_all; done))))
                  | ((with_reducible apply DrawR.go0); (focus kernel_rfl))
                  | ((with_reducible apply KerB.mk); (focus kernel_rfl))
                  | with_reducible apply ends_ret
                  | with_reducible apply ends_norm
                  | with_reducible apply Halt'.mk
                  | ((with_reducible apply CondD.mk) <;> intro hb <;> (try simp only [SPLT] at hb) <;> (try first | contradiction | exact absurd hb (by assumption) | exact absurd (by assumption) hb | (exfalso; omega))))
              all_goals (try exact (false : Bool))
              refine ⟨k + 1, ⟨by omega, ?_, ?_⟩, by omega, ?_⟩
              · rw [seenAt_next hx, hat]
                simp [prevAt, hx]
              · rw [seenAt_next hx, List.length_append]
                omega
              · (conv => whnf)
                refine ⟨?_, by rfl⟩
                repeat' ((conv => whnf); first | exact DLes.nil | with_reducible exact DLe.refl _ | exact DLe.any _ | with_reducible apply DLes.cons | exact DLe.refl _ | exact dle_int (by omega) | exact dle_nil rfl | exact DLe.own _ _ | (exact DLe.of_eq (by rw [seenAt_next hx, List.take_length])))
            · have hjlt := (List.getElem?_eq_some_iff.1 hy).1
              have hya := hpa a (List.mem_of_getElem? hy)
              have haj := adrsN_at (seen := seenAt l k ++ p.addrs.take j) hy
              rw [hjr] at haj
              repeat' (
                (conv => whnf)
                first
                  | ((with_reducible apply NumE.go); (conv => whnf); (with_reducible apply SideD.mk); (focus ((first | (intro hc; have hc0 := hc; (try simp only [SPLT] at hc); (try refine And.intro (by first | exact hc0 | exact ⟨hc0, hc0⟩ | exact ⟨hc0, hc0, hc0⟩) ?_)) | skip); first | exact shr_one _ | exact IntWalk.i64_in _ (by omega) | exact IntWalk.u8_in _ (by omega) | exact ⟨by omega, IntWalk.i64_quo _ _ ⟨by omega, by omega, by omega⟩⟩ | exact ⟨by omega, IntWalk.rem_in _ _ (by omega)⟩ | exact IntWalk.u64_in _ (by omega) | exact IntWalk.i32_in _ (by omega) | exact rfl | exact ⟨by omega, rfl⟩ | exact ⟨by omega, (by decide), IntWalk.i64_in _ (by omega)⟩ | exact ⟨by omega, (by decide), rfl⟩ | exact ⟨by omega, (by show _ ≤ (64 : Int); omega), rfl⟩ | exact hc0 | exact ⟨hc0, hc0⟩ | exact ⟨hc0, hc0, hc0⟩ | (simp only [Bool.and_eq_true] at hc0; simp [hc0]; done) | (simp_all; done))))
                  | ((with_reducible apply IdxE.go); (conv => whnf); (with_reducible apply SideD.mk); (focus ((first | (intro hc; have hc0 := hc; (try simp only [SPLT] at hc); (try refine And.intro (by first | exact hc0 | exact ⟨hc0, hc0⟩ | exact ⟨hc0, hc0, hc0⟩) ?_)) | skip); first | exact idx_nat (by assumption) | exact idx_some (by omega) (by assumption) | exact idx_eq (by assumption) (by omega) | exact look_seen a _ | exact hc0 | exact ⟨hc0, hc0⟩ | exact ⟨hc0, hc0, hc0⟩ | (simp only [Bool.and_eq_true] at hc0; simp [hc0]; done) | (simp_all; done))))
                  | ((with_reducible apply TextE.go); (conv => whnf); (with_reducible apply SideD.mk); (focus ((first | (intro hc; have hc0 := hc; (try simp only [SPLT] at hc); (try refine And.intro (by first | exact hc0 | exact ⟨hc0, hc0⟩ | exact ⟨hc0, hc0, hc0⟩) ?_)) | skip); first | exact rfl | assumption | (exact look_seen a _) | exact hc0 | exact ⟨hc0, hc0⟩ | exact ⟨hc0, hc0, hc0⟩ | (simp only [Bool.and_eq_true] at hc0; simp [hc0]; done) | (simp_all; done))))
                  | ((with_reducible apply LookE.go); (conv => whnf); (with_reducible apply SideD.mk); (focus ((first | (intro hc; have hc0 := hc; (try simp only [SPLT] at hc); (try refine And.intro (by first | exact hc0 | exact ⟨hc0, hc0⟩ | exact ⟨hc0, hc0, hc0⟩) ?_)) | skip); first | (exact look_seen a _) | exact ⟨rfl, rfl⟩ | exact rfl | exact hc0 | exact ⟨hc0, hc0⟩ | exact ⟨hc0, hc0, hc0⟩ | (simp only [Bool.and_eq_true] at hc0; simp [hc0]; done) | (simp_all; done))))
                  | ((with_reducible apply CallE.go); (conv => whnf); (with_reducible apply SideD.mk); (focus ((first | (intro hc; have hc0 := hc; (try simp only [SPLT] at hc); (try refine And.intro (by first | exact hc0 | exact ⟨hc0, hc0⟩ | exact ⟨hc0, hc0, hc0⟩) ?_)) | skip); first | ((try apply givesl); (focus (first | ((apply gives_go (isName_sem _ _)); (focus (first | exact DLes.refl _ | (repeat (first | exact DLes.nil | ((apply DLes.cons); (focus (first | exact DLe.refl _ | exact DLe.own _ _ | exact DLe.nil _ _ | exact DLe.any _))))))); (focus exact rfl); (all_goals (first | exact rfl | assumption | omega | (simp; omega) | (simp; done)))) | ((apply gives_go (addressFault_sem _ _)); (focus (first | exact DLes.refl _ | (repeat (first | exact DLes.nil | ((apply DLes.cons); (focus (first | exact DLe.refl _ | exact DLe.own _ _ | exact DLe.nil _ _ | exact DLe.any _))))))); (focus exact rfl); (all_goals (first | exact rfl | assumption | omega | (simp; omega) | (simp; done)))))); (all_goals exact rfl)) | exact hc0 | exact ⟨hc0, hc0⟩ | exact ⟨hc0, hc0, hc0⟩ | (simp only [Bool.and_eq_true] at hc0; simp [hc0]; done) | (simp_all; done))))
                  | ((with_reducible apply CallO.go); (conv => whnf); (with_reducible apply SideD.mk); (focus (first | fail)))
                  | ((with_reducible apply SideD.mk); (focus ((first | (intro hc; have hc0 := hc; (try simp only [SPLT] at hc); (try refine And.intro (by first | exact hc0 | exact ⟨hc0, hc0⟩ | exact ⟨hc0, hc0, hc0⟩) ?_)) | skip); first | exact ⟨by omega, by omega⟩ | omega | exact ⟨rfl, rfl, by simp only [List.length_map, List.length_append, List.length_cons, List.length_nil]; omega⟩ | exact ⟨rfl, rfl, by simp; omega⟩ | exact ⟨rfl, rfl, by omega⟩ | exact ⟨rfl, by simp; omega⟩ | exact id | (intro h; simp [h]; done) | ((repeat (first | exact trivial | exact rfl | apply And.intro)); done) | (simp; omega) | (refine ⟨?_, ?_, ?_⟩ <;> (simp; omega)) | (refine ⟨?_, ?_, ?_⟩ <;> first | omega | (simp; done) | (simp; omega)) | exact hc0 | exact ⟨hc0, hc0⟩ | exact ⟨hc0, hc0, hc0⟩ | (simp only [Bool.and_eq_true] at hc0; simp [hc0]; done) | (simp_all; done))))
                  | ((with_reducible apply DrawR.go0); (focus kernel_rfl))
                  | ((with_reducible apply KerB.mk); (focus kernel_rfl))
                  | with_reducible apply ends_ret
                  | with_reducible apply ends_norm
                  | with_reducible apply Halt'.mk
                  | ((with_reducible apply CondD.mk) <;> intro hb <;> (try simp only [SPLT] at hb) <;> (try first | contradiction | exact absurd hb (by assumption) | exact absurd (by assumption) hb | (exfalso; omega))))
              all_goals (try exact (false : Bool))
              · repeat' ((conv => whnf); first | exact trivial | with_reducible apply And.intro | with_reducible apply endsO_ret | with_reducible apply endsO_norm | exact DLes.nil | with_reducible exact DLe.refl _ | exact DLe.any _ | with_reducible apply DLes.cons | with_reducible exact rle_refl | exact rle_bool rfl | exact rle_int rfl | exact rle_nil rfl | exact rle_sl0 rfl)
                all_goals (conv => whnf)
                refine rle_int ?_
                rw [if_pos hb] at haj
                rw [hat, haj, if_pos hb]
              · rename_i hf
                repeat' ((conv => whnf); first | exact trivial | with_reducible apply And.intro | with_reducible apply endsO_ret | with_reducible apply endsO_norm | exact DLes.nil | with_reducible exact DLe.refl _ | exact DLe.any _ | with_reducible apply DLes.cons | with_reducible exact rle_refl | exact rle_bool rfl | exact rle_int rfl | exact rle_nil rfl | exact rle_sl0 rfl)
                all_goals (conv => whnf)
                refine rle_int ?_
                rw [if_neg (by omega), if_pos hb] at haj
                rw [hat, haj, if_pos (by decide)]
              · rename_i hf
                rw [if_neg (by omega), if_neg hb] at haj
                have hput := put_seen a hb
                refine ⟨j + 1, ⟨by omega, ?_⟩, by omega, ?_⟩
                · rw [take_at hy, ← List.append_assoc]
                  exact haj.symm
                · (conv => whnf)
                  refine ⟨?_, by rfl⟩
                  repeat' ((conv => whnf); first | exact DLes.nil | with_reducible exact DLe.refl _ | exact DLe.any _ | with_reducible apply DLes.cons | exact DLe.refl _ | exact dle_int (by omega) | exact dle_nil rfl | exact DLe.own _ _ | (exact DLe.of_eq (by rw [take_at hy, ← List.append_assoc, ← hput])))
end Go.Proofs.YthbhjladfniboaaDoor
namespace Go.Proofs.YthbhjladfniboaaDoor
set_option linter.unusedSimpArgs false
set_option linter.unusedVariables false
open Go.RowKit
set_option maxRecDepth 100000
set_option maxHeartbeats 1000000

structure Cas.Ok (c : Cas) : Prop where
  fr : Str.Ok c.fr
  tgt : Str.Ok c.tgt
  msg : Str.Ok c.msg
  ver : Str.Ok c.ver
def restFaultN (c : Cas) : Int := if (!isNameB c.msg || !isNameB c.ver) = true then 5 else if outB c.day 1 3652059 = true then 1 else 0
def caseFaultN (c : Cas) : Int := if (!isNameB c.fr || !isNameB c.tgt) = true then 5 else restFaultN c
def AppliesN (a : Agr) (c : Cas) : Bool × Int := if ownFaultN a ≠ 0 then (false, ownFaultN a) else if caseFaultN c ≠ 0 then (false, caseFaultN c) else (appliesB a c, 0)
abbrev Agr.row (a : Agr) : List D := [.str a.fr, .str a.tgt, .str a.msg, .str a.ver, .int .i64 a.first, .int .i64 a.last, .bool a.test, .int .i64 a.reply, .bool a.inOrder]
abbrev Agr.d (a : Agr) : D := .agg [.str a.fr, .str a.tgt, .str a.msg, .str a.ver, .int .i64 a.first, .int .i64 a.last, .bool a.test, .int .i64 a.reply, .bool a.inOrder]
abbrev Cas.d (c : Cas) : D := .agg [.str c.fr, .str c.tgt, .str c.msg, .str c.ver, .int .i64 c.day, .bool c.test]
theorem isAny_sem (s : Str) (hs : s.Ok) : Sem Tryd.prog 103 [.str s] (.bool (isAnyB s)) := by
  refine sem_intro (M := fun t => mem t []) hT hM Tryd.func103 inferInstance rfl rfl rfl rfl rfl rfl ?_
  repeat' (
    (conv => whnf)
    first
      | ((with_reducible apply NumE.go); (conv => whnf); (with_reducible apply SideD.mk); (focus ((first | (intro hc; have hc0 := hc; (try simp only [SPLT] at hc); (try refine And.intro (by first | exact hc0 | exact ⟨hc0, hc0⟩ | exact ⟨hc0, hc0, hc0⟩) ?_)) | skip); first | exact shr_one _ | exact IntWalk.i64_in _ (by omega) | exact IntWalk.u8_in _ (by omega) | exact ⟨by omega, IntWalk.i64_quo _ _ ⟨by omega, by omega, by omega⟩⟩ | exact ⟨by omega, IntWalk.rem_in _ _ (by omega)⟩ | exact IntWalk.u64_in _ (by omega) | exact IntWalk.i32_in _ (by omega) | exact rfl | exact ⟨by omega, rfl⟩ | exact ⟨by omega, (by decide), IntWalk.i64_in _ (by omega)⟩ | exact ⟨by omega, (by decide), rfl⟩ | exact ⟨by omega, (by show _ ≤ (64 : Int); omega), rfl⟩ | exact hc0 | exact ⟨hc0, hc0⟩ | exact ⟨hc0, hc0, hc0⟩ | (simp only [Bool.and_eq_true] at hc0; simp [hc0]; done) | (simp_all; done))))
      | ((with_reducible apply IdxE.go); (conv => whnf); (with_reducible apply SideD.mk); (focus ((first | (intro hc; have hc0 := hc; (try simp only [SPLT] at hc); (try refine And.intro (by first | exact hc0 | exact ⟨hc0, hc0⟩ | exact ⟨hc0, hc0, hc0⟩) ?_)) | skip); first | exact idx_nat (by assumption) | exact idx_some (by omega) (by assumption) | exact idx_eq (by assumption) (by omega) | exact hc0 | exact ⟨hc0, hc0⟩ | exact ⟨hc0, hc0, hc0⟩ | (simp only [Bool.and_eq_true] at hc0; simp [hc0]; done) | (simp_all; done))))
      | ((with_reducible apply TextE.go); (conv => whnf); (with_reducible apply SideD.mk); (focus ((first | (intro hc; have hc0 := hc; (try simp only [SPLT] at hc); (try refine And.intro (by first | exact hc0 | exact ⟨hc0, hc0⟩ | exact ⟨hc0, hc0, hc0⟩) ?_)) | skip); first | exact rfl | assumption | exact hc0 | exact ⟨hc0, hc0⟩ | exact ⟨hc0, hc0, hc0⟩ | (simp only [Bool.and_eq_true] at hc0; simp [hc0]; done) | (simp_all; done))))
      | ((with_reducible apply LookE.go); (conv => whnf); (with_reducible apply SideD.mk); (focus ((first | (intro hc; have hc0 := hc; (try simp only [SPLT] at hc); (try refine And.intro (by first | exact hc0 | exact ⟨hc0, hc0⟩ | exact ⟨hc0, hc0, hc0⟩) ?_)) | skip); first | exact ⟨rfl, rfl⟩ | exact rfl | exact hc0 | exact ⟨hc0, hc0⟩ | exact ⟨hc0, hc0, hc0⟩ | (simp only [Bool.and_eq_true] at hc0; simp [hc0]; done) | (simp_all; done))))
      | ((with_reducible apply CallE.go); (conv => whnf); (with_reducible apply SideD.mk); (focus ((first | (intro hc; have hc0 := hc; (try simp only [SPLT] at hc); (try refine And.intro (by first | exact hc0 | exact ⟨hc0, hc0⟩ | exact ⟨hc0, hc0, hc0⟩) ?_)) | skip); first | ((try apply givesl); (focus (first | ((apply gives_go (isName_sem _ _)); (focus (first | exact DLes.refl _ | (repeat (first | exact DLes.nil | ((apply DLes.cons); (focus (first | exact DLe.refl _ | exact DLe.own _ _ | exact DLe.nil _ _ | exact DLe.any _))))))); (focus exact rfl); (all_goals (first | exact rfl | assumption | omega | (simp; omega) | (simp; done)))))); (all_goals exact rfl)) | exact hc0 | exact ⟨hc0, hc0⟩ | exact ⟨hc0, hc0, hc0⟩ | (simp only [Bool.and_eq_true] at hc0; simp [hc0]; done) | (simp_all; done))))
      | ((with_reducible apply CallO.go); (conv => whnf); (with_reducible apply SideD.mk); (focus (first | fail)))
      | ((with_reducible apply SideD.mk); (focus ((first | (intro hc; have hc0 := hc; (try simp only [SPLT] at hc); (try refine And.intro (by first | exact hc0 | exact ⟨hc0, hc0⟩ | exact ⟨hc0, hc0, hc0⟩) ?_)) | skip); first | exact ⟨by omega, by omega⟩ | omega | exact ⟨rfl, rfl, by simp only [List.length_map, List.length_append, List.length_cons, List.length_nil]; omega⟩ | exact ⟨rfl, rfl, by simp; omega⟩ | exact ⟨rfl, rfl, by omega⟩ | exact ⟨rfl, by simp; omega⟩ | exact id | (intro h; simp [h]; done) | ((repeat (first | exact trivial | exact rfl | apply And.intro)); done) | (simp; omega) | (refine ⟨?_, ?_, ?_⟩ <;> (simp; omega)) | (refine ⟨?_, ?_, ?_⟩ <;> first | omega | (simp; done) | (simp; omega)) | exact hc0 | exact ⟨hc0, hc0⟩ | exact ⟨hc0, hc0, hc0⟩ | (simp only [Bool.and_eq_true] at hc0; simp [hc0]; done) | (simp_all; done))))
      | ((with_reducible apply DrawR.go0); (focus kernel_rfl))
      | ((with_reducible apply KerB.mk); (focus kernel_rfl))
      | with_reducible apply ends_ret
      | with_reducible apply ends_norm
      | with_reducible apply Halt'.mk
      | ((with_reducible apply CondD.mk) <;> intro hb <;> (try simp only [SPLT] at hb) <;> (try first | contradiction | exact absurd hb (by assumption) | exact absurd (by assumption) hb | (exfalso; omega))))
  all_goals (try exact (false : Bool))
  all_goals
    repeat' ((conv => whnf); first | exact trivial | with_reducible apply And.intro | with_reducible apply endsO_ret | with_reducible apply endsO_norm | exact DLes.nil | with_reducible exact DLe.refl _ | exact DLe.any _ | with_reducible apply DLes.cons | with_reducible exact rle_refl | exact rle_bool rfl | exact rle_int rfl | exact rle_nil rfl | exact rle_sl0 rfl)
    all_goals (conv => whnf)
    try (refine rle_bool ?_; cases s <;> simp_all [isAnyB])
theorem ownFault_sem (a : Agr) (ha : a.Ok) : Sem Tryd.prog 66 [a.d] (.int .i64 (ownFaultN a)) := by
  obtain ⟨hm, hv⟩ := ha
  refine sem_intro (M := fun t => mem t []) hT hM Tryd.func66 inferInstance rfl rfl rfl rfl rfl rfl ?_
  repeat' (
    (conv => whnf)
    first
      | ((with_reducible apply NumE.go); (conv => whnf); (with_reducible apply SideD.mk); (focus ((first | (intro hc; have hc0 := hc; (try simp only [SPLT] at hc); (try refine And.intro (by first | exact hc0 | exact ⟨hc0, hc0⟩ | exact ⟨hc0, hc0, hc0⟩) ?_)) | skip); first | exact shr_one _ | exact IntWalk.i64_in _ (by omega) | exact IntWalk.u8_in _ (by omega) | exact ⟨by omega, IntWalk.i64_quo _ _ ⟨by omega, by omega, by omega⟩⟩ | exact ⟨by omega, IntWalk.rem_in _ _ (by omega)⟩ | exact IntWalk.u64_in _ (by omega) | exact IntWalk.i32_in _ (by omega) | exact rfl | exact ⟨by omega, rfl⟩ | exact ⟨by omega, (by decide), IntWalk.i64_in _ (by omega)⟩ | exact ⟨by omega, (by decide), rfl⟩ | exact ⟨by omega, (by show _ ≤ (64 : Int); omega), rfl⟩ | exact hc0 | exact ⟨hc0, hc0⟩ | exact ⟨hc0, hc0, hc0⟩ | (simp only [Bool.and_eq_true] at hc0; simp [hc0]; done) | (simp_all; done))))
      | ((with_reducible apply IdxE.go); (conv => whnf); (with_reducible apply SideD.mk); (focus ((first | (intro hc; have hc0 := hc; (try simp only [SPLT] at hc); (try refine And.intro (by first | exact hc0 | exact ⟨hc0, hc0⟩ | exact ⟨hc0, hc0, hc0⟩) ?_)) | skip); first | exact idx_nat (by assumption) | exact idx_some (by omega) (by assumption) | exact idx_eq (by assumption) (by omega) | exact hc0 | exact ⟨hc0, hc0⟩ | exact ⟨hc0, hc0, hc0⟩ | (simp only [Bool.and_eq_true] at hc0; simp [hc0]; done) | (simp_all; done))))
      | ((with_reducible apply TextE.go); (conv => whnf); (with_reducible apply SideD.mk); (focus ((first | (intro hc; have hc0 := hc; (try simp only [SPLT] at hc); (try refine And.intro (by first | exact hc0 | exact ⟨hc0, hc0⟩ | exact ⟨hc0, hc0, hc0⟩) ?_)) | skip); first | exact rfl | assumption | exact hc0 | exact ⟨hc0, hc0⟩ | exact ⟨hc0, hc0, hc0⟩ | (simp only [Bool.and_eq_true] at hc0; simp [hc0]; done) | (simp_all; done))))
      | ((with_reducible apply LookE.go); (conv => whnf); (with_reducible apply SideD.mk); (focus ((first | (intro hc; have hc0 := hc; (try simp only [SPLT] at hc); (try refine And.intro (by first | exact hc0 | exact ⟨hc0, hc0⟩ | exact ⟨hc0, hc0, hc0⟩) ?_)) | skip); first | exact ⟨rfl, rfl⟩ | exact rfl | exact hc0 | exact ⟨hc0, hc0⟩ | exact ⟨hc0, hc0, hc0⟩ | (simp only [Bool.and_eq_true] at hc0; simp [hc0]; done) | (simp_all; done))))
      | ((with_reducible apply CallE.go); (conv => whnf); (with_reducible apply SideD.mk); (focus ((first | (intro hc; have hc0 := hc; (try simp only [SPLT] at hc); (try refine And.intro (by first | exact hc0 | exact ⟨hc0, hc0⟩ | exact ⟨hc0, hc0, hc0⟩) ?_)) | skip); first | ((try apply givesl); (focus (first | ((apply gives_go (isAny_sem _ _)); (focus (first | exact DLes.refl _ | (repeat (first | exact DLes.nil | ((apply DLes.cons); (focus (first | exact DLe.refl _ | exact DLe.own _ _ | exact DLe.nil _ _ | exact DLe.any _))))))); (focus exact rfl); (all_goals (first | exact rfl | assumption | omega | (simp; omega) | (simp; done)))) | ((apply gives_go (outside_sem _ _ _)); (focus (first | exact DLes.refl _ | (repeat (first | exact DLes.nil | ((apply DLes.cons); (focus (first | exact DLe.refl _ | exact DLe.own _ _ | exact DLe.nil _ _ | exact DLe.any _))))))); (focus exact rfl); (all_goals (first | exact rfl | assumption | omega | (simp; omega) | (simp; done)))))); (all_goals exact rfl)) | exact hc0 | exact ⟨hc0, hc0⟩ | exact ⟨hc0, hc0, hc0⟩ | (simp only [Bool.and_eq_true] at hc0; simp [hc0]; done) | (simp_all; done))))
      | ((with_reducible apply CallO.go); (conv => whnf); (with_reducible apply SideD.mk); (focus (first | fail)))
      | ((with_reducible apply SideD.mk); (focus ((first | (intro hc; have hc0 := hc; (try simp only [SPLT] at hc); (try refine And.intro (by first | exact hc0 | exact ⟨hc0, hc0⟩ | exact ⟨hc0, hc0, hc0⟩) ?_)) | skip); first | exact ⟨by omega, by omega⟩ | omega | exact ⟨rfl, rfl, by simp only [List.length_map, List.length_append, List.length_cons, List.length_nil]; omega⟩ | exact ⟨rfl, rfl, by simp; omega⟩ | exact ⟨rfl, rfl, by omega⟩ | exact ⟨rfl, by simp; omega⟩ | exact id | (intro h; simp [h]; done) | ((repeat (first | exact trivial | exact rfl | apply And.intro)); done) | (simp; omega) | (refine ⟨?_, ?_, ?_⟩ <;> (simp; omega)) | (refine ⟨?_, ?_, ?_⟩ <;> first | omega | (simp; done) | (simp; omega)) | exact hc0 | exact ⟨hc0, hc0⟩ | exact ⟨hc0, hc0, hc0⟩ | (simp only [Bool.and_eq_true] at hc0; simp [hc0]; done) | (simp_all; done))))
      | ((with_reducible apply DrawR.go0); (focus kernel_rfl))
      | ((with_reducible apply KerB.mk); (focus kernel_rfl))
      | with_reducible apply ends_ret
      | with_reducible apply ends_norm
      | with_reducible apply Halt'.mk
      | ((with_reducible apply CondD.mk) <;> intro hb <;> (try simp only [SPLT] at hb) <;> (try first | contradiction | exact absurd hb (by assumption) | exact absurd (by assumption) hb | (exfalso; omega))))
  all_goals (try exact (false : Bool))
  all_goals
    repeat' ((conv => whnf); first | exact trivial | with_reducible apply And.intro | with_reducible apply endsO_ret | with_reducible apply endsO_norm | exact DLes.nil | with_reducible exact DLe.refl _ | exact DLe.any _ | with_reducible apply DLes.cons | with_reducible exact rle_refl | exact rle_bool rfl | exact rle_int rfl | exact rle_nil rfl | exact rle_sl0 rfl)
    all_goals (conv => whnf)
    refine rle_int ?_
    simp_all [ownFaultN, outB] <;> grind
theorem restFault_sem (c : Cas) (hc : c.Ok) : Sem Tryd.prog 107 [c.d] (.int .i64 (restFaultN c)) := by
  obtain ⟨h1, h2, h3, h4⟩ := hc
  refine sem_intro (M := fun t => mem t []) hT hM Tryd.func107 inferInstance rfl rfl rfl rfl rfl rfl ?_
  repeat' (
    (conv => whnf)
    first
      | ((with_reducible apply NumE.go); (conv => whnf); (with_reducible apply SideD.mk); (focus ((first | (intro hc; have hc0 := hc; (try simp only [SPLT] at hc); (try refine And.intro (by first | exact hc0 | exact ⟨hc0, hc0⟩ | exact ⟨hc0, hc0, hc0⟩) ?_)) | skip); first | exact shr_one _ | exact IntWalk.i64_in _ (by omega) | exact IntWalk.u8_in _ (by omega) | exact ⟨by omega, IntWalk.i64_quo _ _ ⟨by omega, by omega, by omega⟩⟩ | exact ⟨by omega, IntWalk.rem_in _ _ (by omega)⟩ | exact IntWalk.u64_in _ (by omega) | exact IntWalk.i32_in _ (by omega) | exact rfl | exact ⟨by omega, rfl⟩ | exact ⟨by omega, (by decide), IntWalk.i64_in _ (by omega)⟩ | exact ⟨by omega, (by decide), rfl⟩ | exact ⟨by omega, (by show _ ≤ (64 : Int); omega), rfl⟩ | exact hc0 | exact ⟨hc0, hc0⟩ | exact ⟨hc0, hc0, hc0⟩ | (simp only [Bool.and_eq_true] at hc0; simp [hc0]; done) | (simp_all; done))))
      | ((with_reducible apply IdxE.go); (conv => whnf); (with_reducible apply SideD.mk); (focus ((first | (intro hc; have hc0 := hc; (try simp only [SPLT] at hc); (try refine And.intro (by first | exact hc0 | exact ⟨hc0, hc0⟩ | exact ⟨hc0, hc0, hc0⟩) ?_)) | skip); first | exact idx_nat (by assumption) | exact idx_some (by omega) (by assumption) | exact idx_eq (by assumption) (by omega) | exact hc0 | exact ⟨hc0, hc0⟩ | exact ⟨hc0, hc0, hc0⟩ | (simp only [Bool.and_eq_true] at hc0; simp [hc0]; done) | (simp_all; done))))
      | ((with_reducible apply TextE.go); (conv => whnf); (with_reducible apply SideD.mk); (focus ((first | (intro hc; have hc0 := hc; (try simp only [SPLT] at hc); (try refine And.intro (by first | exact hc0 | exact ⟨hc0, hc0⟩ | exact ⟨hc0, hc0, hc0⟩) ?_)) | skip); first | exact rfl | assumption | exact hc0 | exact ⟨hc0, hc0⟩ | exact ⟨hc0, hc0, hc0⟩ | (simp only [Bool.and_eq_true] at hc0; simp [hc0]; done) | (simp_all; done))))
      | ((with_reducible apply LookE.go); (conv => whnf); (with_reducible apply SideD.mk); (focus ((first | (intro hc; have hc0 := hc; (try simp only [SPLT] at hc); (try refine And.intro (by first | exact hc0 | exact ⟨hc0, hc0⟩ | exact ⟨hc0, hc0, hc0⟩) ?_)) | skip); first | exact ⟨rfl, rfl⟩ | exact rfl | exact hc0 | exact ⟨hc0, hc0⟩ | exact ⟨hc0, hc0, hc0⟩ | (simp only [Bool.and_eq_true] at hc0; simp [hc0]; done) | (simp_all; done))))
      | ((with_reducible apply CallE.go); (conv => whnf); (with_reducible apply SideD.mk); (focus ((first | (intro hc; have hc0 := hc; (try simp only [SPLT] at hc); (try refine And.intro (by first | exact hc0 | exact ⟨hc0, hc0⟩ | exact ⟨hc0, hc0, hc0⟩) ?_)) | skip); first | ((try apply givesl); (focus (first | ((apply gives_go (isName_sem _ _)); (focus (first | exact DLes.refl _ | (repeat (first | exact DLes.nil | ((apply DLes.cons); (focus (first | exact DLe.refl _ | exact DLe.own _ _ | exact DLe.nil _ _ | exact DLe.any _))))))); (focus exact rfl); (all_goals (first | exact rfl | assumption | omega | (simp; omega) | (simp; done)))) | ((apply gives_go (isDay_sem _)); (focus (first | exact DLes.refl _ | (repeat (first | exact DLes.nil | ((apply DLes.cons); (focus (first | exact DLe.refl _ | exact DLe.own _ _ | exact DLe.nil _ _ | exact DLe.any _))))))); (focus exact rfl); (all_goals (first | exact rfl | assumption | omega | (simp; omega) | (simp; done)))))); (all_goals exact rfl)) | exact hc0 | exact ⟨hc0, hc0⟩ | exact ⟨hc0, hc0, hc0⟩ | (simp only [Bool.and_eq_true] at hc0; simp [hc0]; done) | (simp_all; done))))
      | ((with_reducible apply CallO.go); (conv => whnf); (with_reducible apply SideD.mk); (focus (first | fail)))
      | ((with_reducible apply SideD.mk); (focus ((first | (intro hc; have hc0 := hc; (try simp only [SPLT] at hc); (try refine And.intro (by first | exact hc0 | exact ⟨hc0, hc0⟩ | exact ⟨hc0, hc0, hc0⟩) ?_)) | skip); first | exact ⟨by omega, by omega⟩ | omega | exact ⟨rfl, rfl, by simp only [List.length_map, List.length_append, List.length_cons, List.length_nil]; omega⟩ | exact ⟨rfl, rfl, by simp; omega⟩ | exact ⟨rfl, rfl, by omega⟩ | exact ⟨rfl, by simp; omega⟩ | exact id | (intro h; simp [h]; done) | ((repeat (first | exact trivial | exact rfl | apply And.intro)); done) | (simp; omega) | (refine ⟨?_, ?_, ?_⟩ <;> (simp; omega)) | (refine ⟨?_, ?_, ?_⟩ <;> first | omega | (simp; done) | (simp; omega)) | exact hc0 | exact ⟨hc0, hc0⟩ | exact ⟨hc0, hc0, hc0⟩ | (simp only [Bool.and_eq_true] at hc0; simp [hc0]; done) | (simp_all; done))))
      | ((with_reducible apply DrawR.go0); (focus kernel_rfl))
      | ((with_reducible apply KerB.mk); (focus kernel_rfl))
      | with_reducible apply ends_ret
      | with_reducible apply ends_norm
      | with_reducible apply Halt'.mk
      | ((with_reducible apply CondD.mk) <;> intro hb <;> (try simp only [SPLT] at hb) <;> (try first | contradiction | exact absurd hb (by assumption) | exact absurd (by assumption) hb | (exfalso; omega))))
  all_goals (try exact (false : Bool))
  all_goals
    repeat' ((conv => whnf); first | exact trivial | with_reducible apply And.intro | with_reducible apply endsO_ret | with_reducible apply endsO_norm | exact DLes.nil | with_reducible exact DLe.refl _ | exact DLe.any _ | with_reducible apply DLes.cons | with_reducible exact rle_refl | exact rle_bool rfl | exact rle_int rfl | exact rle_nil rfl | exact rle_sl0 rfl)
    all_goals (conv => whnf)
    refine rle_int ?_
    simp_all [restFaultN, outB] <;> grind
theorem caseFault_sem (c : Cas) (hc : c.Ok) : Sem Tryd.prog 71 [c.d] (.int .i64 (caseFaultN c)) := by
  have hc' := hc
  obtain ⟨h1, h2, h3, h4⟩ := hc
  refine sem_intro (M := fun t => mem t []) hT hM Tryd.func71 inferInstance rfl rfl rfl rfl rfl rfl ?_
  repeat' (
    (conv => whnf)
    first
      | ((with_reducible apply NumE.go); (conv => whnf); (with_reducible apply SideD.mk); (focus ((first | (intro hc; have hc0 := hc; (try simp only [SPLT] at hc); (try refine And.intro (by first | exact hc0 | exact ⟨hc0, hc0⟩ | exact ⟨hc0, hc0, hc0⟩) ?_)) | skip); first | exact shr_one _ | exact IntWalk.i64_in _ (by omega) | exact IntWalk.u8_in _ (by omega) | exact ⟨by omega, IntWalk.i64_quo _ _ ⟨by omega, by omega, by omega⟩⟩ | exact ⟨by omega, IntWalk.rem_in _ _ (by omega)⟩ | exact IntWalk.u64_in _ (by omega) | exact IntWalk.i32_in _ (by omega) | exact rfl | exact ⟨by omega, rfl⟩ | exact ⟨by omega, (by decide), IntWalk.i64_in _ (by omega)⟩ | exact ⟨by omega, (by decide), rfl⟩ | exact ⟨by omega, (by show _ ≤ (64 : Int); omega), rfl⟩ | exact hc0 | exact ⟨hc0, hc0⟩ | exact ⟨hc0, hc0, hc0⟩ | (simp only [Bool.and_eq_true] at hc0; simp [hc0]; done) | (simp_all; done))))
      | ((with_reducible apply IdxE.go); (conv => whnf); (with_reducible apply SideD.mk); (focus ((first | (intro hc; have hc0 := hc; (try simp only [SPLT] at hc); (try refine And.intro (by first | exact hc0 | exact ⟨hc0, hc0⟩ | exact ⟨hc0, hc0, hc0⟩) ?_)) | skip); first | exact idx_nat (by assumption) | exact idx_some (by omega) (by assumption) | exact idx_eq (by assumption) (by omega) | exact hc0 | exact ⟨hc0, hc0⟩ | exact ⟨hc0, hc0, hc0⟩ | (simp only [Bool.and_eq_true] at hc0; simp [hc0]; done) | (simp_all; done))))
      | ((with_reducible apply TextE.go); (conv => whnf); (with_reducible apply SideD.mk); (focus ((first | (intro hc; have hc0 := hc; (try simp only [SPLT] at hc); (try refine And.intro (by first | exact hc0 | exact ⟨hc0, hc0⟩ | exact ⟨hc0, hc0, hc0⟩) ?_)) | skip); first | exact rfl | assumption | exact hc0 | exact ⟨hc0, hc0⟩ | exact ⟨hc0, hc0, hc0⟩ | (simp only [Bool.and_eq_true] at hc0; simp [hc0]; done) | (simp_all; done))))
      | ((with_reducible apply LookE.go); (conv => whnf); (with_reducible apply SideD.mk); (focus ((first | (intro hc; have hc0 := hc; (try simp only [SPLT] at hc); (try refine And.intro (by first | exact hc0 | exact ⟨hc0, hc0⟩ | exact ⟨hc0, hc0, hc0⟩) ?_)) | skip); first | exact ⟨rfl, rfl⟩ | exact rfl | exact hc0 | exact ⟨hc0, hc0⟩ | exact ⟨hc0, hc0, hc0⟩ | (simp only [Bool.and_eq_true] at hc0; simp [hc0]; done) | (simp_all; done))))
      | ((with_reducible apply CallE.go); (conv => whnf); (with_reducible apply SideD.mk); (focus ((first | (intro hc; have hc0 := hc; (try simp only [SPLT] at hc); (try refine And.intro (by first | exact hc0 | exact ⟨hc0, hc0⟩ | exact ⟨hc0, hc0, hc0⟩) ?_)) | skip); first | ((try apply givesl); (focus (first | ((apply gives_go (isName_sem _ _)); (focus (first | exact DLes.refl _ | (repeat (first | exact DLes.nil | ((apply DLes.cons); (focus (first | exact DLe.refl _ | exact DLe.own _ _ | exact DLe.nil _ _ | exact DLe.any _))))))); (focus exact rfl); (all_goals (first | exact rfl | assumption | omega | (simp; omega) | (simp; done)))) | ((apply gives_go (restFault_sem _ _)); (focus (first | exact DLes.refl _ | (repeat (first | exact DLes.nil | ((apply DLes.cons); (focus (first | exact DLe.refl _ | exact DLe.own _ _ | exact DLe.nil _ _ | exact DLe.any _))))))); (focus exact rfl); (all_goals (first | exact rfl | assumption | omega | (simp; omega) | (simp; done)))))); (all_goals exact rfl)) | exact hc0 | exact ⟨hc0, hc0⟩ | exact ⟨hc0, hc0, hc0⟩ | (simp only [Bool.and_eq_true] at hc0; simp [hc0]; done) | (simp_all; done))))
      | ((with_reducible apply CallO.go); (conv => whnf); (with_reducible apply SideD.mk); (focus (first | fail)))
      | ((with_reducible apply SideD.mk); (focus ((first | (intro hc; have hc0 := hc; (try simp only [SPLT] at hc); (try refine And.intro (by first | exact hc0 | exact ⟨hc0, hc0⟩ | exact ⟨hc0, hc0, hc0⟩) ?_)) | skip); first | exact ⟨by omega, by omega⟩ | omega | exact ⟨rfl, rfl, by simp only [List.length_map, List.length_append, List.length_cons, List.length_nil]; omega⟩ | exact ⟨rfl, rfl, by simp; omega⟩ | exact ⟨rfl, rfl, by omega⟩ | exact ⟨rfl, by simp; omega⟩ | exact id | (intro h; simp [h]; done) | ((repeat (first | exact trivial | exact rfl | apply And.intro)); done) | (simp; omega) | (refine ⟨?_, ?_, ?_⟩ <;> (simp; omega)) | (refine ⟨?_, ?_, ?_⟩ <;> first | omega | (simp; done) | (simp; omega)) | exact hc0 | exact ⟨hc0, hc0⟩ | exact ⟨hc0, hc0, hc0⟩ | (simp only [Bool.and_eq_true] at hc0; simp [hc0]; done) | (simp_all; done))))
      | ((with_reducible apply DrawR.go0); (focus kernel_rfl))
      | ((with_reducible apply KerB.mk); (focus kernel_rfl))
      | with_reducible apply ends_ret
      | with_reducible apply ends_norm
      | with_reducible apply Halt'.mk
      | ((with_reducible apply CondD.mk) <;> intro hb <;> (try simp only [SPLT] at hb) <;> (try first | contradiction | exact absurd hb (by assumption) | exact absurd (by assumption) hb | (exfalso; omega))))
  all_goals (try exact (false : Bool))
  all_goals
    repeat' ((conv => whnf); first | exact trivial | with_reducible apply And.intro | with_reducible apply endsO_ret | with_reducible apply endsO_norm | exact DLes.nil | with_reducible exact DLe.refl _ | exact DLe.any _ | with_reducible apply DLes.cons | with_reducible exact rle_refl | exact rle_bool rfl | exact rle_int rfl | exact rle_nil rfl | exact rle_sl0 rfl)
    all_goals (conv => whnf)
    refine rle_int ?_
    simp_all [caseFaultN] <;> grind
theorem alike_sem (a : Agr) (c : Cas) : Sem Tryd.prog 108 [a.d, c.d] (.bool (alikeB a c)) := by
  refine sem_intro (M := fun t => mem t []) hT hM Tryd.func108 inferInstance rfl rfl rfl rfl rfl rfl ?_
  repeat' (
    (conv => whnf)
    first
      | ((with_reducible apply NumE.go); (conv => whnf); (with_reducible apply SideD.mk); (focus ((first | (intro hc; have hc0 := hc; (try simp only [SPLT] at hc); (try refine And.intro (by first | exact hc0 | exact ⟨hc0, hc0⟩ | exact ⟨hc0, hc0, hc0⟩) ?_)) | skip); first | exact shr_one _ | exact IntWalk.i64_in _ (by omega) | exact IntWalk.u8_in _ (by omega) | exact ⟨by omega, IntWalk.i64_quo _ _ ⟨by omega, by omega, by omega⟩⟩ | exact ⟨by omega, IntWalk.rem_in _ _ (by omega)⟩ | exact IntWalk.u64_in _ (by omega) | exact IntWalk.i32_in _ (by omega) | exact rfl | exact ⟨by omega, rfl⟩ | exact ⟨by omega, (by decide), IntWalk.i64_in _ (by omega)⟩ | exact ⟨by omega, (by decide), rfl⟩ | exact ⟨by omega, (by show _ ≤ (64 : Int); omega), rfl⟩ | exact hc0 | exact ⟨hc0, hc0⟩ | exact ⟨hc0, hc0, hc0⟩ | (simp only [Bool.and_eq_true] at hc0; simp [hc0]; done) | (simp_all; done))))
      | ((with_reducible apply IdxE.go); (conv => whnf); (with_reducible apply SideD.mk); (focus ((first | (intro hc; have hc0 := hc; (try simp only [SPLT] at hc); (try refine And.intro (by first | exact hc0 | exact ⟨hc0, hc0⟩ | exact ⟨hc0, hc0, hc0⟩) ?_)) | skip); first | exact idx_nat (by assumption) | exact idx_some (by omega) (by assumption) | exact idx_eq (by assumption) (by omega) | exact hc0 | exact ⟨hc0, hc0⟩ | exact ⟨hc0, hc0, hc0⟩ | (simp only [Bool.and_eq_true] at hc0; simp [hc0]; done) | (simp_all; done))))
      | ((with_reducible apply TextE.go); (conv => whnf); (with_reducible apply SideD.mk); (focus ((first | (intro hc; have hc0 := hc; (try simp only [SPLT] at hc); (try refine And.intro (by first | exact hc0 | exact ⟨hc0, hc0⟩ | exact ⟨hc0, hc0, hc0⟩) ?_)) | skip); first | exact rfl | assumption | exact hc0 | exact ⟨hc0, hc0⟩ | exact ⟨hc0, hc0, hc0⟩ | (simp only [Bool.and_eq_true] at hc0; simp [hc0]; done) | (simp_all; done))))
      | ((with_reducible apply LookE.go); (conv => whnf); (with_reducible apply SideD.mk); (focus ((first | (intro hc; have hc0 := hc; (try simp only [SPLT] at hc); (try refine And.intro (by first | exact hc0 | exact ⟨hc0, hc0⟩ | exact ⟨hc0, hc0, hc0⟩) ?_)) | skip); first | exact ⟨rfl, rfl⟩ | exact rfl | exact hc0 | exact ⟨hc0, hc0⟩ | exact ⟨hc0, hc0, hc0⟩ | (simp only [Bool.and_eq_true] at hc0; simp [hc0]; done) | (simp_all; done))))
      | ((with_reducible apply CallE.go); (conv => whnf); (with_reducible apply SideD.mk); (focus ((first | (intro hc; have hc0 := hc; (try simp only [SPLT] at hc); (try refine And.intro (by first | exact hc0 | exact ⟨hc0, hc0⟩ | exact ⟨hc0, hc0, hc0⟩) ?_)) | skip); first | ((try apply givesl); (focus (first | fail)); (all_goals exact rfl)) | exact hc0 | exact ⟨hc0, hc0⟩ | exact ⟨hc0, hc0, hc0⟩ | (simp only [Bool.and_eq_true] at hc0; simp [hc0]; done) | (simp_all; done))))
      | ((with_reducible apply CallO.go); (conv => whnf); (with_reducible apply SideD.mk); (focus (first | fail)))
      | ((with_reducible apply SideD.mk); (focus ((first | (intro hc; have hc0 := hc; (try simp only [SPLT] at hc); (try refine And.intro (by first | exact hc0 | exact ⟨hc0, hc0⟩ | exact ⟨hc0, hc0, hc0⟩) ?_)) | skip); first | exact ⟨by omega, by omega⟩ | omega | exact ⟨rfl, rfl, by simp only [List.length_map, List.length_append, List.length_cons, List.length_nil]; omega⟩ | exact ⟨rfl, rfl, by simp; omega⟩ | exact ⟨rfl, rfl, by omega⟩ | exact ⟨rfl, by simp; omega⟩ | exact id | (intro h; simp [h]; done) | ((repeat (first | exact trivial | exact rfl | apply And.intro)); done) | (simp; omega) | (refine ⟨?_, ?_, ?_⟩ <;> (simp; omega)) | (refine ⟨?_, ?_, ?_⟩ <;> first | omega | (simp; done) | (simp; omega)) | exact hc0 | exact ⟨hc0, hc0⟩ | exact ⟨hc0, hc0, hc0⟩ | (simp only [Bool.and_eq_true] at hc0; simp [hc0]; done) | (simp_all; done))))
      | ((with_reducible apply DrawR.go0); (focus kernel_rfl))
      | ((with_reducible apply KerB.mk); (focus kernel_rfl))
      | with_reducible apply ends_ret
      | with_reducible apply ends_norm
      | with_reducible apply Halt'.mk
      | ((with_reducible apply CondD.mk) <;> intro hb <;> (try simp only [SPLT] at hb) <;> (try first | contradiction | exact absurd hb (by assumption) | exact absurd (by assumption) hb | (exfalso; omega))))
  all_goals (try exact (false : Bool))
  all_goals
    repeat' ((conv => whnf); first | exact trivial | with_reducible apply And.intro | with_reducible apply endsO_ret | with_reducible apply endsO_norm | exact DLes.nil | with_reducible exact DLe.refl _ | exact DLe.any _ | with_reducible apply DLes.cons | with_reducible exact rle_refl | exact rle_bool rfl | exact rle_int rfl | exact rle_nil rfl | exact rle_sl0 rfl)
    all_goals (conv => whnf)
    try (refine rle_bool ?_; simp_all [alikeB] <;> grind)
theorem applies_sem (a : Agr) (c : Cas) : Sem Tryd.prog 72 [a.d, c.d] (.bool (appliesB a c)) := by
  refine sem_intro (M := fun t => mem t []) hT hM Tryd.func72 inferInstance rfl rfl rfl rfl rfl rfl ?_
  repeat' (
    (conv => whnf)
    first
      | ((with_reducible apply NumE.go); (conv => whnf); (with_reducible apply SideD.mk); (focus ((first | (intro hc; have hc0 := hc; (try simp only [SPLT] at hc); (try refine And.intro (by first | exact hc0 | exact ⟨hc0, hc0⟩ | exact ⟨hc0, hc0, hc0⟩) ?_)) | skip); first | exact shr_one _ | exact IntWalk.i64_in _ (by omega) | exact IntWalk.u8_in _ (by omega) | exact ⟨by omega, IntWalk.i64_quo _ _ ⟨by omega, by omega, by omega⟩⟩ | exact ⟨by omega, IntWalk.rem_in _ _ (by omega)⟩ | exact IntWalk.u64_in _ (by omega) | exact IntWalk.i32_in _ (by omega) | exact rfl | exact ⟨by omega, rfl⟩ | exact ⟨by omega, (by decide), IntWalk.i64_in _ (by omega)⟩ | exact ⟨by omega, (by decide), rfl⟩ | exact ⟨by omega, (by show _ ≤ (64 : Int); omega), rfl⟩ | exact hc0 | exact ⟨hc0, hc0⟩ | exact ⟨hc0, hc0, hc0⟩ | (simp only [Bool.and_eq_true] at hc0; simp [hc0]; done) | (simp_all; done))))
      | ((with_reducible apply IdxE.go); (conv => whnf); (with_reducible apply SideD.mk); (focus ((first | (intro hc; have hc0 := hc; (try simp only [SPLT] at hc); (try refine And.intro (by first | exact hc0 | exact ⟨hc0, hc0⟩ | exact ⟨hc0, hc0, hc0⟩) ?_)) | skip); first | exact idx_nat (by assumption) | exact idx_some (by omega) (by assumption) | exact idx_eq (by assumption) (by omega) | exact hc0 | exact ⟨hc0, hc0⟩ | exact ⟨hc0, hc0, hc0⟩ | (simp only [Bool.and_eq_true] at hc0; simp [hc0]; done) | (simp_all; done))))
      | ((with_reducible apply TextE.go); (conv => whnf); (with_reducible apply SideD.mk); (focus ((first | (intro hc; have hc0 := hc; (try simp only [SPLT] at hc); (try refine And.intro (by first | exact hc0 | exact ⟨hc0, hc0⟩ | exact ⟨hc0, hc0, hc0⟩) ?_)) | skip); first | exact rfl | assumption | exact hc0 | exact ⟨hc0, hc0⟩ | exact ⟨hc0, hc0, hc0⟩ | (simp only [Bool.and_eq_true] at hc0; simp [hc0]; done) | (simp_all; done))))
      | ((with_reducible apply LookE.go); (conv => whnf); (with_reducible apply SideD.mk); (focus ((first | (intro hc; have hc0 := hc; (try simp only [SPLT] at hc); (try refine And.intro (by first | exact hc0 | exact ⟨hc0, hc0⟩ | exact ⟨hc0, hc0, hc0⟩) ?_)) | skip); first | exact ⟨rfl, rfl⟩ | exact rfl | exact hc0 | exact ⟨hc0, hc0⟩ | exact ⟨hc0, hc0, hc0⟩ | (simp only [Bool.and_eq_true] at hc0; simp [hc0]; done) | (simp_all; done))))
      | ((with_reducible apply CallE.go); (conv => whnf); (with_reducible apply SideD.mk); (focus ((first | (intro hc; have hc0 := hc; (try simp only [SPLT] at hc); (try refine And.intro (by first | exact hc0 | exact ⟨hc0, hc0⟩ | exact ⟨hc0, hc0, hc0⟩) ?_)) | skip); first | ((try apply givesl); (focus (first | ((apply gives_go (alike_sem _ _)); (focus (first | exact DLes.refl _ | (repeat (first | exact DLes.nil | ((apply DLes.cons); (focus (first | exact DLe.refl _ | exact DLe.own _ _ | exact DLe.nil _ _ | exact DLe.any _))))))); (focus exact rfl); (all_goals (first | exact rfl | assumption | omega | (simp; omega) | (simp; done)))) | ((apply gives_go (outside_sem _ _ _)); (focus (first | exact DLes.refl _ | (repeat (first | exact DLes.nil | ((apply DLes.cons); (focus (first | exact DLe.refl _ | exact DLe.own _ _ | exact DLe.nil _ _ | exact DLe.any _))))))); (focus exact rfl); (all_goals (first | exact rfl | assumption | omega | (simp; omega) | (simp; done)))))); (all_goals exact rfl)) | exact hc0 | exact ⟨hc0, hc0⟩ | exact ⟨hc0, hc0, hc0⟩ | (simp only [Bool.and_eq_true] at hc0; simp [hc0]; done) | (simp_all; done))))
      | ((with_reducible apply CallO.go); (conv => whnf); (with_reducible apply SideD.mk); (focus (first | fail)))
      | ((with_reducible apply SideD.mk); (focus ((first | (intro hc; have hc0 := hc; (try simp only [SPLT] at hc); (try refine And.intro (by first | exact hc0 | exact ⟨hc0, hc0⟩ | exact ⟨hc0, hc0, hc0⟩) ?_)) | skip); first | exact ⟨by omega, by omega⟩ | omega | exact ⟨rfl, rfl, by simp only [List.length_map, List.length_append, List.length_cons, List.length_nil]; omega⟩ | exact ⟨rfl, rfl, by simp; omega⟩ | exact ⟨rfl, rfl, by omega⟩ | exact ⟨rfl, by simp; omega⟩ | exact id | (intro h; simp [h]; done) | ((repeat (first | exact trivial | exact rfl | apply And.intro)); done) | (simp; omega) | (refine ⟨?_, ?_, ?_⟩ <;> (simp; omega)) | (refine ⟨?_, ?_, ?_⟩ <;> first | omega | (simp; done) | (simp; omega)) | exact hc0 | exact ⟨hc0, hc0⟩ | exact ⟨hc0, hc0, hc0⟩ | (simp only [Bool.and_eq_true] at hc0; simp [hc0]; done) | (simp_all; done))))
      | ((with_reducible apply DrawR.go0); (focus kernel_rfl))
      | ((with_reducible apply KerB.mk); (focus kernel_rfl))
      | with_reducible apply ends_ret
      | with_reducible apply ends_norm
      | with_reducible apply Halt'.mk
      | ((with_reducible apply CondD.mk) <;> intro hb <;> (try simp only [SPLT] at hb) <;> (try first | contradiction | exact absurd hb (by assumption) | exact absurd (by assumption) hb | (exfalso; omega))))
  all_goals (try exact (false : Bool))
  all_goals
    repeat' ((conv => whnf); first | exact trivial | with_reducible apply And.intro | with_reducible apply endsO_ret | with_reducible apply endsO_norm | exact DLes.nil | with_reducible exact DLe.refl _ | exact DLe.any _ | with_reducible apply DLes.cons | with_reducible exact rle_refl | exact rle_bool rfl | exact rle_int rfl | exact rle_nil rfl | exact rle_sl0 rfl)
    all_goals (conv => whnf)
    try (refine rle_bool ?_; simp_all [appliesB, outB] <;> grind)
theorem flag_sem (b : Bool) : Sem Tryd.prog 109 [.bool b] (.int .i64 (flagN b)) := by
  refine sem_intro (M := fun t => mem t []) hT hM Tryd.func109 inferInstance rfl rfl rfl rfl rfl rfl ?_
  repeat' (
    (conv => whnf)
    first
      | ((with_reducible apply NumE.go); (conv => whnf); (with_reducible apply SideD.mk); (focus ((first | (intro hc; have hc0 := hc; (try simp only [SPLT] at hc); (try refine And.intro (by first | exact hc0 | exact ⟨hc0, hc0⟩ | exact ⟨hc0, hc0, hc0⟩) ?_)) | skip); first | exact shr_one _ | exact IntWalk.i64_in _ (by omega) | exact IntWalk.u8_in _ (by omega) | exact ⟨by omega, IntWalk.i64_quo _ _ ⟨by omega, by omega, by omega⟩⟩ | exact ⟨by omega, IntWalk.rem_in _ _ (by omega)⟩ | exact IntWalk.u64_in _ (by omega) | exact IntWalk.i32_in _ (by omega) | exact rfl | exact ⟨by omega, rfl⟩ | exact ⟨by omega, (by decide), IntWalk.i64_in _ (by omega)⟩ | exact ⟨by omega, (by decide), rfl⟩ | exact ⟨by omega, (by show _ ≤ (64 : Int); omega), rfl⟩ | exact hc0 | exact ⟨hc0, hc0⟩ | exact ⟨hc0, hc0, hc0⟩ | (simp only [Bool.and_eq_true] at hc0; simp [hc0]; done) | (simp_all; done))))
      | ((with_reducible apply IdxE.go); (conv => whnf); (with_reducible apply SideD.mk); (focus ((first | (intro hc; have hc0 := hc; (try simp only [SPLT] at hc); (try refine And.intro (by first | exact hc0 | exact ⟨hc0, hc0⟩ | exact ⟨hc0, hc0, hc0⟩) ?_)) | skip); first | exact idx_nat (by assumption) | exact idx_some (by omega) (by assumption) | exact idx_eq (by assumption) (by omega) | exact hc0 | exact ⟨hc0, hc0⟩ | exact ⟨hc0, hc0, hc0⟩ | (simp only [Bool.and_eq_true] at hc0; simp [hc0]; done) | (simp_all; done))))
      | ((with_reducible apply TextE.go); (conv => whnf); (with_reducible apply SideD.mk); (focus ((first | (intro hc; have hc0 := hc; (try simp only [SPLT] at hc); (try refine And.intro (by first | exact hc0 | exact ⟨hc0, hc0⟩ | exact ⟨hc0, hc0, hc0⟩) ?_)) | skip); first | exact rfl | assumption | exact hc0 | exact ⟨hc0, hc0⟩ | exact ⟨hc0, hc0, hc0⟩ | (simp only [Bool.and_eq_true] at hc0; simp [hc0]; done) | (simp_all; done))))
      | ((with_reducible apply LookE.go); (conv => whnf); (with_reducible apply SideD.mk); (focus ((first | (intro hc; have hc0 := hc; (try simp only [SPLT] at hc); (try refine And.intro (by first | exact hc0 | exact ⟨hc0, hc0⟩ | exact ⟨hc0, hc0, hc0⟩) ?_)) | skip); first | exact ⟨rfl, rfl⟩ | exact rfl | exact hc0 | exact ⟨hc0, hc0⟩ | exact ⟨hc0, hc0, hc0⟩ | (simp only [Bool.and_eq_true] at hc0; simp [hc0]; done) | (simp_all; done))))
      | ((with_reducible apply CallE.go); (conv => whnf); (with_reducible apply SideD.mk); (focus ((first | (intro hc; have hc0 := hc; (try simp only [SPLT] at hc); (try refine And.intro (by first | exact hc0 | exact ⟨hc0, hc0⟩ | exact ⟨hc0, hc0, hc0⟩) ?_)) | skip); first | ((try apply givesl); (focus (first | fail)); (all_goals exact rfl)) | exact hc0 | exact ⟨hc0, hc0⟩ | exact ⟨hc0, hc0, hc0⟩ | (simp only [Bool.and_eq_true] at hc0; simp [hc0]; done) | (simp_all; done))))
      | ((with_reducible apply CallO.go); (conv => whnf); (with_reducible apply SideD.mk); (focus (first | fail)))
      | ((with_reducible apply SideD.mk); (focus ((first | (intro hc; have hc0 := hc; (try simp only [SPLT] at hc); (try refine And.intro (by first | exact hc0 | exact ⟨hc0, hc0⟩ | exact ⟨hc0, hc0, hc0⟩) ?_)) | skip); first | exact ⟨by omega, by omega⟩ | omega | exact ⟨rfl, rfl, by simp only [List.length_map, List.length_append, List.length_cons, List.length_nil]; omega⟩ | exact ⟨rfl, rfl, by simp; omega⟩ | exact ⟨rfl, rfl, by omega⟩ | exact ⟨rfl, by simp; omega⟩ | exact id | (intro h; simp [h]; done) | ((repeat (first | exact trivial | exact rfl | apply And.intro)); done) | (simp; omega) | (refine ⟨?_, ?_, ?_⟩ <;> (simp; omega)) | (refine ⟨?_, ?_, ?_⟩ <;> first | omega | (simp; done) | (simp; omega)) | exact hc0 | exact ⟨hc0, hc0⟩ | exact ⟨hc0, hc0, hc0⟩ | (simp only [Bool.and_eq_true] at hc0; simp [hc0]; done) | (simp_all; done))))
      | ((with_reducible apply DrawR.go0); (focus kernel_rfl))
      | ((with_reducible apply KerB.mk); (focus kernel_rfl))
      | with_reducible apply ends_ret
      | with_reducible apply ends_norm
      | with_reducible apply Halt'.mk
      | ((with_reducible apply CondD.mk) <;> intro hb <;> (try simp only [SPLT] at hb) <;> (try first | contradiction | exact absurd hb (by assumption) | exact absurd (by assumption) hb | (exfalso; omega))))
  all_goals (try exact (false : Bool))
  all_goals
    repeat' ((conv => whnf); first | exact trivial | with_reducible apply And.intro | with_reducible apply endsO_ret | with_reducible apply endsO_norm | exact DLes.nil | with_reducible exact DLe.refl _ | exact DLe.any _ | with_reducible apply DLes.cons | with_reducible exact rle_refl | exact rle_bool rfl | exact rle_int rfl | exact rle_nil rfl | exact rle_sl0 rfl)
    all_goals (conv => whnf)
    refine rle_int ?_
    simp_all [flagN]
end Go.Proofs.YthbhjladfniboaaDoor
namespace Go.Proofs.YthbhjladfniboaaDoor
set_option linter.unusedSimpArgs false
set_option linter.unusedVariables false
open Go.RowKit

theorem fs_neg : ∀ l : List Int, firstSign (l.map (- ·)) = - firstSign l
  | [] => rfl
  | d :: r => by
    simp only [List.map_cons, firstSign]
    rw [fs_neg r]
    split <;> split <;> (try split) <;> (try split) <;> omega
theorem fs_01 : ∀ l : List Int, firstSign l = -1 ∨ firstSign l = 0 ∨ firstSign l = 1
  | [] => .inr (.inl rfl)
  | d :: r => by
    simp only [firstSign]
    split
    · exact .inl rfl
    · split
      · exact .inr (.inr rfl)
      · exact fs_01 r
theorem fs_add : ∀ x y : List Int, x.length = y.length → firstSign x ≤ 0 → firstSign y ≤ 0 →
    firstSign (List.zipWith (· + ·) x y) < 0 ∨ (firstSign x = 0 ∧ firstSign y = 0 ∧ firstSign (List.zipWith (· + ·) x y) = 0)
  | [], [], _, _, _ => .inr ⟨rfl, rfl, rfl⟩
  | d :: r, e :: s, hl, hx, hy => by
    simp only [List.zipWith_cons_cons, firstSign] at *
    by_cases hd : d < 0
    · rw [if_pos hd] at hx
      by_cases he : e < 0
      · rw [if_pos (by omega : d + e < 0)]; left; omega
      · rw [if_neg he] at hy
        by_cases he0 : 0 < e
        · rw [if_pos he0] at hy; omega
        · rw [if_pos (by omega : d + e < 0)]; left; omega
    · by_cases hd0 : 0 < d
      · rw [if_neg hd, if_pos hd0] at hx; omega
      · by_cases he : e < 0
        · rw [if_pos (by omega : d + e < 0)]; left; omega
        · by_cases he0 : 0 < e
          · rw [if_neg he, if_pos he0] at hy; omega
          · rw [if_neg hd, if_neg hd0] at hx
            rw [if_neg he, if_neg he0] at hy
            rw [if_neg hd, if_neg hd0, if_neg he, if_neg he0, if_neg (by omega : ¬ d + e < 0), if_neg (by omega : ¬ 0 < d + e)]
            exact fs_add r s (by simpa using hl) hx hy
theorem betterN_neg (a b : Agr) : betterN b a = - betterN a b := by
  unfold betterN
  rw [← fs_neg]
  simp only [List.map_cons, List.map_nil]
  congr 1
  simp only [List.cons.injEq, and_true]
  omega
theorem betterN_01 (a b : Agr) : betterN a b = -1 ∨ betterN a b = 0 ∨ betterN a b = 1 := fs_01 _
theorem betterN_trans (a b c : Agr) (h1 : betterN a b ≤ 0) (h2 : betterN b c ≤ 0) : betterN a c < 0 ∨ (betterN a b = 0 ∧ betterN b c = 0 ∧ betterN a c = 0) := by
  have := fs_add [flagN (!b.msg.isEmpty) - flagN (!a.msg.isEmpty), flagN (!b.ver.isEmpty) - flagN (!a.ver.isEmpty), b.first - a.first, a.last - b.last]
    [flagN (!c.msg.isEmpty) - flagN (!b.msg.isEmpty), flagN (!c.ver.isEmpty) - flagN (!b.ver.isEmpty), c.first - b.first, b.last - c.last] rfl h1 h2
  have e : List.zipWith (· + ·) [flagN (!b.msg.isEmpty) - flagN (!a.msg.isEmpty), flagN (!b.ver.isEmpty) - flagN (!a.ver.isEmpty), b.first - a.first, a.last - b.last]
    [flagN (!c.msg.isEmpty) - flagN (!b.msg.isEmpty), flagN (!c.ver.isEmpty) - flagN (!b.ver.isEmpty), c.first - b.first, b.last - c.last] =
    [flagN (!c.msg.isEmpty) - flagN (!a.msg.isEmpty), flagN (!c.ver.isEmpty) - flagN (!a.ver.isEmpty), c.first - a.first, a.last - c.last] := by
    simp only [List.zipWith_cons_cons, List.zipWith_nil_left, List.cons.injEq, and_true]
    omega
  rw [e] at this
  exact this
theorem betterN_self (a : Agr) : betterN a a = 0 := by
  have := betterN_neg a a
  omega
/-- Is the agreement a better than the one with the number b, or is there none yet? -/
def beats (l : List Agr) (a : Agr) (b : Int) : Bool := decide (b < 0) || match l[b.toNat]? with
  | some x => decide (betterN a x < 0)
  | none => false
/-- The best one among the first k. -/
def findAt (l : List Agr) (c : Cas) : Nat → Int
  | 0 => -1
  | k + 1 => match l[k]? with
    | none => findAt l c k
    | some a => if (appliesB a c && beats l a (findAt l c k)) = true then (k : Int) else findAt l c k
def findN (l : List Agr) (c : Cas) : Int := findAt l c l.length
theorem findAt_bd (l : List Agr) (c : Cas) : ∀ k, k ≤ l.length → -1 ≤ findAt l c k ∧ findAt l c k < k
  | 0, _ => ⟨by simp [findAt], by simp [findAt]⟩
  | k + 1, h => by
    obtain ⟨h1, h2⟩ := findAt_bd l c k (by omega)
    simp only [findAt, List.getElem?_eq_getElem (show k < l.length by omega)]
    split <;> omega
theorem findAt_next {l : List Agr} {c : Cas} {k : Nat} {a : Agr} (h : l[k]? = some a) : findAt l c (k + 1) = if (appliesB a c && beats l a (findAt l c k)) = true then (k : Int) else findAt l c k := by
  simp only [findAt, h]
/-- What is found among the first k. -/
structure Best (l : List Agr) (P : Agr → Prop) (k : Nat) (b : Int) : Prop where
  none : b < 0 → ∀ i a, i < k → l[i]? = some a → ¬ P a
  some : 0 ≤ b → b.toNat < k ∧ ∃ x, l[b.toNat]? = some x ∧ P x ∧ ∀ i a, i < k → l[i]? = some a → P a → 0 ≤ betterN a x ∧ (betterN a x = 0 → b.toNat ≤ i)
theorem find_best (l : List Agr) (c : Cas) : ∀ k, k ≤ l.length → Best l (fun a => appliesB a c = true) k (findAt l c k)
  | 0, _ => ⟨fun _ i a h => by omega, fun h => by simp [findAt] at h⟩
  | k + 1, hk => by
    have ih := find_best l c k (by omega)
    obtain ⟨a, ha⟩ : ∃ a, l[k]? = some a := ⟨l[k], List.getElem?_eq_getElem (by omega)⟩
    rw [findAt_next ha]
    by_cases hap : appliesB a c = true
    · by_cases hb : findAt l c k < 0
      · have hno := ih.none hb
        rw [if_pos (by simp [hap, beats, hb])]
        refine ⟨fun h => by omega, fun _ => ⟨by omega, a, by simpa using ha, hap, fun i x hi hx hpx => ?_⟩⟩
        by_cases hik : i = k
        · subst hik
          rw [ha] at hx
          cases hx
          rw [betterN_self]
          simp
        · exact absurd hpx (hno i x (by omega) hx)
      · obtain ⟨h1, x, hx, hpx, hbest⟩ := ih.some (by omega)
        by_cases hlt : betterN a x < 0
        · rw [if_pos (by simp [hap, beats, hx, hlt])]
          refine ⟨fun h => by omega, fun _ => ⟨by omega, a, by simpa using ha, hap, fun i y hi hy hpy => ?_⟩⟩
          by_cases hik : i = k
          · subst hik
            rw [ha] at hy
            cases hy
            rw [betterN_self]
            simp
          · obtain ⟨g1, _⟩ := hbest i y (by omega) hy hpy
            have h2 := betterN_neg y x
            have h3 := betterN_trans a x y (by omega) (by omega)
            have h4 := betterN_neg a y
            exact ⟨by omega, fun h0 => by omega⟩
        · rw [if_neg (by simp [hap, beats, hx, hlt, hb])]
          refine ⟨fun h => absurd h hb, fun _ => ⟨by omega, x, hx, hpx, fun i y hi hy hpy => ?_⟩⟩
          by_cases hik : i = k
          · subst hik
            rw [ha] at hy
            cases hy
            exact ⟨by omega, fun _ => by omega⟩
          · exact hbest i y (by omega) hy hpy
    · rw [if_neg (by simp [hap])]
      refine ⟨fun h i x hi hx => ?_, fun h => ?_⟩
      · by_cases hik : i = k
        · subst hik
          rw [ha] at hx
          cases hx
          exact hap
        · exact ih.none h i x (by omega) hx
      · obtain ⟨h1, x, hx, hpx, hbest⟩ := ih.some h
        refine ⟨by omega, x, hx, hpx, fun i y hi hy hpy => ?_⟩
        by_cases hik : i = k
        · subst hik
          rw [ha] at hy
          cases hy
          exact absurd hpy hap
        · exact hbest i y (by omega) hy hpy
/-- Only one number is the best. -/
theorem Best.eq {l : List Agr} {P : Agr → Prop} {b b' : Int} (h : Best l P l.length b) (h' : Best l P l.length b') (h1 : -1 ≤ b) (h1' : -1 ≤ b') : b = b' := by
  by_cases hb : b < 0
  · by_cases hb' : b' < 0
    · omega
    · obtain ⟨g1, x, g2, g3, _⟩ := h'.some (by omega)
      exact absurd g3 (h.none hb _ _ g1 g2)
  · by_cases hb' : b' < 0
    · obtain ⟨g1, x, g2, g3, _⟩ := h.some (by omega)
      exact absurd g3 (h'.none hb' _ _ g1 g2)
    · obtain ⟨g1, x, g2, g3, g4⟩ := h.some (by omega)
      obtain ⟨k1, y, k2, k3, k4⟩ := h'.some (by omega)
      obtain ⟨p1, p2⟩ := g4 _ _ k1 k2 k3
      obtain ⟨q1, q2⟩ := k4 _ _ g1 g2 g3
      have hn := betterN_neg x y
      have e1 := p2 (by omega)
      have e2 := q2 (by omega)
      omega
def isPartnerN (l : List Par) (n : Str) : Bool := l.any fun p => p.name == n
def agrFaults (p : List Par) : List Agr → Int
  | [] => 0
  | a :: r => if (!isPartnerN p a.fr || !isPartnerN p a.tgt) = true then 5 else if ownFaultN a ≠ 0 then ownFaultN a else agrFaults p r
def agreementsN (p : List Par) (l : List Agr) : Int := if partnersN p ≠ 0 then partnersN p else if 200 < l.length then 2 else agrFaults p l
def askedN (p : List Par) (l : List Agr) (c : Cas) : Int := if agreementsN p l ≠ 0 then agreementsN p l else if caseFaultN c ≠ 0 then caseFaultN c else if (!isPartnerN p c.fr || !isPartnerN p c.tgt) = true then 5 else 0
def FindN (p : List Par) (l : List Agr) (c : Cas) : Int × Bool × Int := if askedN p l c ≠ 0 then (0, false, askedN p l c) else (max (findN l c) 0, decide (0 ≤ findN l c), 0)
def Cas.of (c : Cas) (fr tgt : Str) : Cas := ⟨fr, tgt, c.msg, c.ver, c.day, c.test⟩
def Cas.on (c : Cas) (d : Int) : Cas := ⟨c.fr, c.tgt, c.msg, c.ver, d, c.test⟩
def FoundN (p : List Par) (l : List Agr) (x y : Adr) (c : Cas) : Int × Bool × Int :=
  if agreementsN p l ≠ 0 then (0, false, agreementsN p l) else if adrFaultN x ≠ 0 then (0, false, adrFaultN x) else if adrFaultN y ≠ 0 then (0, false, adrFaultN y) else if (!c.fr.isEmpty || !c.tgt.isEmpty) = true then (0, false, 3)
  else if restFaultN c ≠ 0 then (0, false, restFaultN c) else if ((partnerOfN p x).isEmpty || (partnerOfN p y).isEmpty || partnerOfN p x == partnerOfN p y) = true then (0, false, 0)
  else (max (findN l (c.of (partnerOfN p x) (partnerOfN p y))) 0, decide (0 ≤ findN l (c.of (partnerOfN p x) (partnerOfN p y))), 0)
theorem agrFaults_at {p : List Par} {l : List Agr} {k : Nat} {a : Agr} (h : l[k]? = some a) : agrFaults p (l.drop k) = if (!isPartnerN p a.fr || !isPartnerN p a.tgt) = true then 5 else if ownFaultN a ≠ 0 then ownFaultN a else agrFaults p (l.drop (k + 1)) := by
  rw [drop_at h]
  rfl
theorem agrFaults_ok {p : List Par} : ∀ {l : List Agr}, agrFaults p l = 0 → ∀ a ∈ l, ownFaultN a = 0
  | [], _, a, ha => by cases ha
  | b :: r, h, a, ha => by
    unfold agrFaults at h
    split at h
    · cases h
    · split at h
      · rename_i h1 h2; exact absurd h h2
      · rename_i h1 h2
        rcases List.mem_cons.1 ha with rfl | ha
        · simpa using h2
        · exact agrFaults_ok h a ha
theorem agreementsN_ok {p : List Par} {l : List Agr} (h : agreementsN p l = 0) : partnersN p = 0 ∧ l.length ≤ 200 ∧ agrFaults p l = 0 := by
  unfold agreementsN at h
  split at h
  · rename_i h1; exact absurd h h1
  · split at h
    · cases h
    · exact ⟨by simp_all, by omega, h⟩
theorem askedN_ok {p : List Par} {l : List Agr} {c : Cas} (h : askedN p l c = 0) : agreementsN p l = 0 ∧ caseFaultN c = 0 := by
  unfold askedN at h
  split at h
  · rename_i h1; exact absurd h h1
  · split at h
    · rename_i h1 h2; exact absurd h h2
    · exact ⟨by simp_all, by simp_all⟩
end Go.Proofs.YthbhjladfniboaaDoor
namespace Go.Proofs.YthbhjladfniboaaDoor
set_option linter.unusedSimpArgs false
set_option linter.unusedVariables false
open Go.RowKit

theorem compactUpTo_lt (d : Array Int) (hd : ∀ i j, i ≤ j → j < d.size → d[i]! ≤ d[j]!) : ∀ m, m ≤ d.size → (Lib.compactUpTo d m).Pairwise (· < ·) ∧ (∀ x ∈ Lib.compactUpTo d m, x ≤ d[m - 1]!)
  | 0, _ => by simp [Lib.compactUpTo]
  | m + 1, h => by
    obtain ⟨h1, h2⟩ := compactUpTo_lt d hd m (by omega)
    have hle : ∀ x ∈ Lib.compactUpTo d m, x ≤ d[m]! := fun x hx => Int.le_trans (h2 x hx) (hd _ _ (by omega) (by omega))
    rw [Lib.compactUpTo_succ]
    simp only [Nat.add_sub_cancel]
    by_cases hk : Lib.keeps d m = true
    · rw [if_pos hk]
      refine ⟨List.pairwise_append.2 ⟨h1, by simp, fun x hx y hy => ?_⟩, fun x hx => ?_⟩
      · simp only [List.mem_singleton] at hy
        subst hy
        have h3 := h2 x hx
        have h4 := hd (m - 1) m (by omega) (by omega)
        rcases Nat.eq_zero_or_pos m with h0 | h0
        · subst h0; simp [Lib.compactUpTo] at hx
        · simp only [Lib.keeps, decide_eq_true_eq] at hk
          have : d[m]! ≠ d[m - 1]! := by rcases hk with hk | hk; omega; exact hk
          omega
      · rcases List.mem_append.1 hx with hx | hx
        · exact hle x hx
        · simp only [List.mem_singleton] at hx; omega
    · rw [if_neg hk, List.append_nil]
      exact ⟨h1, hle⟩
theorem sortI_le (l : List Int) : (sortI l).Pairwise (· ≤ ·) := by
  have := List.pairwise_mergeSort (le := fun x y : Int => decide (x ≤ y)) (fun a b c h1 h2 => by simp at *; omega) (fun a b => by simp; omega) l
  exact this.imp (by simp)
theorem compact_lt (l : List Int) (h : l.Pairwise (· ≤ ·)) : (Lib.compact l).Pairwise (· < ·) := by
  refine (compactUpTo_lt l.toArray (fun i j hij hj => ?_) l.length (by simp)).1
  simp only [List.size_toArray] at hj
  rcases Nat.lt_or_ge i j with hlt | hge
  · have := List.pairwise_iff_getElem.1 h i j (by omega) hj hlt
    simpa [getElem!_pos, show i < l.length by omega, hj] using this
  · have : i = j := by omega
    subst this; exact Int.le_refl _
theorem compact_mem (l : List Int) (x : Int) (h : x ∈ Lib.compact l) : x ∈ l := by
  unfold Lib.compact Lib.compactUpTo at h
  obtain ⟨j, hj, rfl⟩ := List.mem_map.1 h
  have hj' : j < l.length := by have := (List.mem_filter.1 hj).1; simpa using this
  simp [getElem!_pos, hj']
theorem sortI_mem (l : List Int) (x : Int) : x ∈ sortI l ↔ x ∈ l := List.mem_mergeSort
theorem compact_len (l : List Int) : (Lib.compact (sortI l)).length ≤ l.length := by
  have := Lib.compact_length_le (sortI l)
  rwa [show (sortI l).length = l.length from List.length_mergeSort l] at this
theorem mem_compactUpTo (d : Array Int) : ∀ m, ∀ j, j < m → d[j]! ∈ Lib.compactUpTo d m
  | 0, j, h => by omega
  | m + 1, j, h => by
    rw [Lib.compactUpTo_succ]
    by_cases hk : Lib.keeps d m = true
    · rw [if_pos hk]
      rcases Nat.lt_or_ge j m with hj | hj
      · exact List.mem_append.2 (.inl (mem_compactUpTo d m j hj))
      · have : j = m := by omega
        subst this; simp
    · rw [if_neg hk, List.append_nil]
      rcases Nat.lt_or_ge j m with hj | hj
      · exact mem_compactUpTo d m j hj
      · have : j = m := by omega
        subst this
        simp only [Lib.keeps, decide_eq_true_eq, not_or, Decidable.not_not] at hk
        obtain ⟨h1, h2⟩ := hk
        rw [h2]
        exact mem_compactUpTo d j (j - 1) (by omega)
theorem mem_compact (l : List Int) (x : Int) (h : x ∈ l) : x ∈ Lib.compact l := by
  obtain ⟨j, hj, rfl⟩ := List.getElem_of_mem h
  have := mem_compactUpTo l.toArray l.length j hj
  simpa [Lib.compact, getElem!_pos, hj] using this
theorem distinct_mem (l : List Int) (x : Int) : x ∈ Lib.compact (sortI l) ↔ x ∈ l :=
  ⟨fun h => (sortI_mem l x).1 (compact_mem _ _ h), fun h => mem_compact _ _ ((sortI_mem l x).2 h)⟩
theorem mem_cons_pw {x : Int} {l : List Int} (h : (x :: l).Pairwise (· < ·)) : ∀ y ∈ l, x < y := (List.pairwise_cons.1 h).1
def pts (fr : Int) (a : Agr) : List Int := [a.first, a.last + 1].filter fun d => decide (fr < d) && decide (d ≤ 3652059)
def rawL (l : List Agr) (fr : Int) : List Int := fr :: l.flatMap (pts fr)
def changeL (l : List Agr) (fr : Int) : List Int := Lib.compact (sortI (rawL l fr))
theorem rawL_mem {l : List Agr} {fr x : Int} : x ∈ rawL l fr ↔ x = fr ∨ ∃ a ∈ l, (x = a.first ∨ x = a.last + 1) ∧ fr < x ∧ x ≤ 3652059 := by
  simp only [rawL, List.mem_cons, List.mem_flatMap, pts, List.mem_filter, List.not_mem_nil, or_false, Bool.and_eq_true, decide_eq_true_eq]
theorem changeL_cons (l : List Agr) (fr : Int) : ∃ r, changeL l fr = fr :: r ∧ (fr :: r).Pairwise (· < ·) ∧ ∀ x, x ∈ r ↔ x ∈ rawL l fr ∧ fr < x := by
  have hlt : (changeL l fr).Pairwise (· < ·) := compact_lt _ (sortI_le _)
  have hm : ∀ x, x ∈ changeL l fr ↔ x ∈ rawL l fr := distinct_mem _
  have hge : ∀ x ∈ rawL l fr, fr ≤ x := fun x hx => by
    rcases rawL_mem.1 hx with rfl | ⟨a, _, _, h, _⟩ <;> omega
  have hfr : fr ∈ changeL l fr := (hm fr).2 (rawL_mem.2 (.inl rfl))
  cases hc : changeL l fr with
  | nil => rw [hc] at hfr; cases hfr
  | cons y r =>
    rw [hc] at hlt hm hfr
    have hyr := mem_cons_pw hlt
    have hy : y = fr := by
      have h1 := hge y ((hm y).1 (by simp))
      rcases List.mem_cons.1 hfr with h | h
      · exact h.symm
      · have := hyr fr h; omega
    subst hy
    refine ⟨r, rfl, hlt, fun x => ⟨fun h => ⟨(hm x).1 (by simp [h]), hyr x h⟩, fun ⟨h1, h2⟩ => ?_⟩⟩
    rcases List.mem_cons.1 ((hm x).2 h1) with rfl | h
    · omega
    · exact h
theorem applies_on (a : Agr) (c : Cas) (d e : Int) (hde : d ≤ e) (h1 : ¬ (d < a.first ∧ a.first ≤ e)) (h2 : ¬ (d < a.last + 1 ∧ a.last + 1 ≤ e)) : appliesB a (c.on d) = appliesB a (c.on e) := by
  have ha : alikeB a (c.on d) = alikeB a (c.on e) := rfl
  have ho : outB d a.first a.last = outB e a.first a.last := by
    unfold outB
    by_cases g1 : d < a.first
    · have : e < a.first := by omega
      simp [g1, this]
    · have : ¬ e < a.first := by omega
      by_cases g2 : a.last < d
      · have : a.last < e := by omega
        simp [g2, this]
      · have : ¬ a.last < e := by omega
        simp [g1, g2, *]
  unfold appliesB
  rw [ha]
  show (alikeB a (c.on e) && !outB d a.first a.last) = (alikeB a (c.on e) && !outB e a.first a.last)
  rw [ho]
theorem findAt_congr {l : List Agr} {c c' : Cas} (h : ∀ a ∈ l, appliesB a c = appliesB a c') : ∀ k, findAt l c k = findAt l c' k
  | 0 => rfl
  | k + 1 => by
    simp only [findAt, findAt_congr h k]
    cases hk : l[k]? with
    | none => rfl
    | some a => simp only [h a (List.mem_of_getElem? hk)]
theorem find_on {l : List Agr} {c : Cas} {d e : Int} (hfr : c.day ≤ d) (hde : d ≤ e) (he : e ≤ 3652059) (hn : ∀ x ∈ rawL l c.day, d < x → ¬ x ≤ e) : findN l (c.on d) = findN l (c.on e) := by
  refine findAt_congr (fun a ha => applies_on a c d e hde (fun h => ?_) fun h => ?_) _
  · exact hn a.first (rawL_mem.2 (.inr ⟨a, ha, .inl rfl, by omega, by omega⟩)) h.1 h.2
  · exact hn (a.last + 1) (rawL_mem.2 (.inr ⟨a, ha, .inr rfl, by omega, by omega⟩)) h.1 h.2
/-- Up to the day before the first point at which another one is found. -/
def untilD (l : List Agr) (c : Cas) (f : Int) : List Int → Int
  | [] => 3652059
  | d :: r => if findN l (c.on d) ≠ f then d - 1 else untilD l c f r
structure UntilOk (l : List Agr) (c : Cas) (f cur E : Int) : Prop where
  ge : cur ≤ E
  le : E ≤ 3652059
  same : ∀ d, c.day ≤ d → d ≤ E → findN l (c.on d) = f
  next : E ≠ 3652059 → findN l (c.on (E + 1)) ≠ f
theorem until_ok {l : List Agr} {c : Cas} {f : Int} : ∀ (r : List Int) (cur : Int), (cur :: r).Pairwise (· < ·) → (∀ x ∈ rawL l c.day, cur < x → x ∈ r) → (∀ x ∈ r, x ≤ 3652059) → c.day ≤ cur → cur ≤ 3652059 → (∀ d, c.day ≤ d → d ≤ cur → findN l (c.on d) = f) → UntilOk l c f cur (untilD l c f r)
  | [], cur, _, hraw, _, h1, h2, hs => ⟨h2, Int.le_refl _, fun d hd hd2 => by
      have hd2 : d ≤ 3652059 := hd2
      by_cases hdc : d ≤ cur
      · exact hs d hd hdc
      · rw [← hs cur h1 (Int.le_refl _)]
        exact (find_on h1 (by omega) hd2 fun x hx hlt _ => by have := hraw x hx hlt; cases this).symm, fun h => absurd rfl h⟩
  | x :: r, cur, hp, hraw, hm, h1, h2, hs => by
    have hcx : cur < x := mem_cons_pw hp x (by simp)
    have hxm := hm x (by simp)
    have hxr := mem_cons_pw (List.pairwise_cons.1 hp).2
    have hbe : ∀ d, c.day ≤ d → d < x → findN l (c.on d) = f := fun d hd hdx => by
      by_cases hdc : d ≤ cur
      · exact hs d hd hdc
      · rw [← hs cur h1 (Int.le_refl _)]
        refine (find_on h1 (by omega) (by omega) fun y hy hlt hle => ?_).symm
        rcases List.mem_cons.1 (hraw y hy hlt) with rfl | h
        · omega
        · have := hxr y h; omega
    unfold untilD
    by_cases hx : findN l (c.on x) ≠ f
    · rw [if_pos hx]
      exact ⟨by omega, by omega, fun d hd hd2 => hbe d hd (by omega), fun _ => by rw [show x - 1 + 1 = x by omega]; exact hx⟩
    · rw [if_neg hx]
      have ih := until_ok r x (List.pairwise_cons.1 hp).2 (fun y hy hlt => by
        rcases List.mem_cons.1 (hraw y hy (by omega)) with rfl | h
        · omega
        · exact h) (fun y hy => hm y (by simp [hy])) (by omega) hxm (fun d hd hd2 => by
        by_cases hdx : d = x
        · subst hdx; exact Classical.not_not.1 hx
        · exact hbe d hd (by omega))
      exact ⟨by have := ih.ge; omega, ih.le, ih.same, ih.next⟩
def UntilN (p : List Par) (l : List Agr) (c : Cas) : Int × Int := if askedN p l c ≠ 0 then (0, askedN p l c) else if findN l c < 0 then (0, 0) else (untilD l c (findN l c) (changeL l c.day).tail, 0)
theorem case_day {c : Cas} (h : caseFaultN c = 0) : 1 ≤ c.day ∧ c.day ≤ 3652059 := by
  unfold caseFaultN restFaultN at h
  split at h
  · cases h
  · split at h
    · cases h
    · split at h
      · cases h
      · rename_i h3
        simp only [outB, Bool.or_eq_true, decide_eq_true_eq, not_or] at h3
        omega
theorem case_on {c : Cas} {d : Int} (h : caseFaultN c = 0) (h1 : 1 ≤ d) (h2 : d ≤ 3652059) : caseFaultN (c.on d) = 0 := by
  unfold caseFaultN restFaultN at h ⊢
  split at h
  · cases h
  · rename_i g1
    split at h
    · cases h
    · rename_i g2
      have e1 : ¬ (!isNameB (c.on d).fr || !isNameB (c.on d).tgt) = true := g1
      have e2 : ¬ (!isNameB (c.on d).msg || !isNameB (c.on d).ver) = true := g2
      have e3 : ¬ outB (c.on d).day 1 3652059 = true := by
        show ¬ outB d 1 3652059 = true
        simp only [outB, Bool.or_eq_true, decide_eq_true_eq, not_or]
        omega
      rw [if_neg e1, if_neg e2, if_neg e3]
theorem asked_on {p : List Par} {l : List Agr} {c : Cas} {d : Int} (h : askedN p l c = 0) (h1 : 1 ≤ d) (h2 : d ≤ 3652059) : askedN p l (c.on d) = 0 := by
  obtain ⟨g1, g2⟩ := askedN_ok h
  have g3 := case_on g2 h1 h2
  unfold askedN at h ⊢
  rw [if_neg (by simpa using g1), if_neg (by simpa using g2)] at h
  rw [if_neg (by simpa using g1), if_neg (by simpa using g3)]
  exact h
theorem on_day (c : Cas) : c.on c.day = c := rfl
/-- What stands behind law 12. -/
theorem law12_plain {p : List Par} {l : List Agr} {c : Cas} (h : askedN p l c = 0) (hf : 0 ≤ findN l c) : UntilOk l c (findN l c) c.day (UntilN p l c).1 ∧ (UntilN p l c).2 = 0 := by
  have hd := case_day (askedN_ok h).2
  obtain ⟨r, h1, h2, h3⟩ := changeL_cons l c.day
  have he : UntilN p l c = (untilD l c (findN l c) r, 0) := by
    unfold UntilN
    rw [if_neg (by simpa using h), if_neg (by omega), h1]
    rfl
  rw [he]
  refine ⟨until_ok r c.day h2 (fun x hx hlt => (h3 x).2 ⟨hx, hlt⟩) (fun x hx => ?_) (Int.le_refl _) hd.2 (fun d g1 g2 => ?_), rfl⟩
  · rcases rawL_mem.1 ((h3 x).1 hx).1 with rfl | ⟨a, _, _, _, h⟩
    · exact hd.2
    · exact h
  · have : d = c.day := by omega
    rw [this, on_day]
end Go.Proofs.YthbhjladfniboaaDoor
namespace Go.Proofs.YthbhjladfniboaaDoor
set_option linter.unusedSimpArgs false
set_option linter.unusedVariables false
open Go.RowKit

theorem bl_nil (a : List UInt8) : Op.bytesLess a [] = false := by cases a <;> rfl
theorem bl_cons (x y : UInt8) (a b : List UInt8) : Op.bytesLess (x :: a) (y :: b) = true ↔ x.toNat < y.toNat ∨ (x = y ∧ Op.bytesLess a b = true) := by
  simp only [Op.bytesLess, Bool.or_eq_true, decide_eq_true_eq, Bool.and_eq_true, beq_iff_eq]
  exact Iff.rfl
theorem bl_trans : ∀ {a b c : List UInt8}, Op.bytesLess a b = true → Op.bytesLess b c = true → Op.bytesLess a c = true
  | _, b, [], _, h => by rw [bl_nil] at h; cases h
  | _, [], _ :: _, h, _ => by rw [bl_nil] at h; cases h
  | [], _ :: _, _ :: _, _, _ => rfl
  | x :: a, y :: b, z :: c, h, k => by
    rw [bl_cons] at *
    rcases h with h | ⟨rfl, h⟩
    · rcases k with k | ⟨rfl, k⟩
      · left; omega
      · left; exact h
    · rcases k with k | ⟨rfl, k⟩
      · left; exact k
      · exact .inr ⟨rfl, bl_trans h k⟩
theorem bl_irrefl : ∀ a : List UInt8, Op.bytesLess a a = false
  | [] => rfl
  | x :: a => by
    rw [Bool.eq_false_iff]
    intro h
    rw [bl_cons] at h
    rcases h with h | ⟨_, h⟩
    · omega
    · rw [bl_irrefl a] at h; cases h
theorem bl_total : ∀ a b : List UInt8, Op.bytesLess a b = true ∨ a = b ∨ Op.bytesLess b a = true
  | [], [] => .inr (.inl rfl)
  | [], _ :: _ => .inl rfl
  | _ :: _, [] => .inr (.inr rfl)
  | x :: a, y :: b => by
    rw [bl_cons, bl_cons]
    rcases Nat.lt_trichotomy x.toNat y.toNat with h | h | h
    · exact .inl (.inl h)
    · have hxy : x = y := UInt8.toNat_inj.1 h
      subst hxy
      rcases bl_total a b with h | rfl | h
      · exact .inl (.inr ⟨rfl, h⟩)
      · exact .inr (.inl rfl)
      · exact .inr (.inr (.inr ⟨rfl, h⟩))
    · exact .inr (.inr (.inl h))
theorem notAfter_lt {q n : Str} (h : notAfter (some q) n = false) : Op.bytesLess q n = true := by
  simp only [notAfter, Bool.or_eq_false_iff, beq_eq_false_iff_ne] at h
  rcases bl_total q n with h1 | h1 | h1
  · exact h1
  · exact absurd h1.symm h.2
  · rw [h1] at h; cases h.1
/-- The names rise. -/
def Rising (l : List Par) : Prop := l.Pairwise fun p q => Op.bytesLess p.name q.name = true
theorem parsN_rising : ∀ {l : List Par} {seen : List Adr} {prev : Option Str}, parsN seen prev l = 0 → Rising l ∧ ∀ q, prev = some q → ∀ p ∈ l, Op.bytesLess q p.name = true
  | [], _, _, _ => ⟨.nil, fun q _ p hp => by cases hp⟩
  | p :: r, seen, prev, h => by
    unfold parsN at h
    split at h
    · cases h
    · split at h
      · cases h
      · rename_i h1 h2
        split at h
        · cases h
        · split at h
          · rename_i h3 h4; exact absurd h h4
          · obtain ⟨k1, k2⟩ := parsN_rising h
            have k3 := k2 p.name rfl
            refine ⟨.cons k3 k1, fun q hq x hx => ?_⟩
            subst hq
            have h5 := notAfter_lt (by simpa using h2)
            rcases List.mem_cons.1 hx with rfl | hx
            · exact h5
            · exact bl_trans h5 (k3 x hx)
theorem partnersN_ok {l : List Par} (h : partnersN l = 0) : l.length ≤ 200 ∧ Rising l := by
  unfold partnersN at h
  split at h
  · cases h
  · exact ⟨by omega, (parsN_rising h).1⟩
def cmpN (a b : Str) : Int := if Op.bytesLess a b = true then -1 else if a = b then 0 else 1
/-- What is known between the halves. -/
structure Halves (l : List Par) (n : Str) (i j : Nat) : Prop where
  le : i ≤ j
  lj : j ≤ l.length
  low : ∀ k p, k < i → l[k]? = some p → Op.bytesLess p.name n = true
  high : ∀ k p, j ≤ k → l[k]? = some p → Op.bytesLess p.name n = false
theorem Halves.start (l : List Par) (n : Str) : Halves l n 0 l.length :=
  ⟨Nat.zero_le _, Nat.le_refl _, fun k p h => by omega, fun k p h hp => by have := (List.getElem?_eq_some_iff.1 hp).1; omega⟩
theorem rising_at {l : List Par} (hr : Rising l) {i j : Nat} {p q : Par} (hi : l[i]? = some p) (hj : l[j]? = some q) (h : i < j) : Op.bytesLess p.name q.name = true := by
  obtain ⟨h1, rfl⟩ := List.getElem?_eq_some_iff.1 hi
  obtain ⟨h2, rfl⟩ := List.getElem?_eq_some_iff.1 hj
  exact List.pairwise_iff_getElem.1 hr i j h1 h2 h
theorem Halves.right {l : List Par} {n : Str} {i j h : Nat} {p : Par} (hr : Rising l) (H : Halves l n i j) (hi : i ≤ h) (hj : h < j) (hp : l[h]? = some p) (hc : Op.bytesLess p.name n = true) : Halves l n (h + 1) j := by
  refine ⟨by omega, H.lj, fun k q hk hq => ?_, H.high⟩
  rcases Nat.lt_or_ge k h with h1 | h1
  · exact bl_trans (rising_at hr hq hp h1) hc
  · have : k = h := by omega
    subst this
    rw [hp] at hq
    cases hq
    exact hc
theorem Halves.left {l : List Par} {n : Str} {i j h : Nat} {p : Par} (hr : Rising l) (H : Halves l n i j) (hi : i ≤ h) (hj : h < j) (hp : l[h]? = some p) (hc : Op.bytesLess p.name n = false) : Halves l n i h := by
  refine ⟨hi, by have := H.lj; omega, H.low, fun k q hk hq => ?_⟩
  rcases Nat.lt_or_ge h k with h1 | h1
  · rw [Bool.eq_false_iff]
    intro h2
    have := bl_trans (rising_at hr hp hq h1) h2
    rw [hc] at this
    cases this
  · have : k = h := by omega
    subst this
    rw [hp] at hq
    cases hq
    exact hc
theorem Halves.some {l : List Par} {n : Str} {i : Nat} {p : Par} (hr : Rising l) (H : Halves l n i i) (hp : l[i]? = some p) : isPartnerN l n = decide (p.name = n) := by
  by_cases h : p.name = n
  · rw [decide_eq_true h]
    exact List.any_eq_true.2 ⟨p, List.mem_of_getElem? hp, by simpa using h⟩
  · rw [decide_eq_false h, isPartnerN, List.any_eq_false]
    intro q hq hqn
    have hqn : q.name = n := by simpa using hqn
    obtain ⟨k, hk, rfl⟩ := List.mem_iff_getElem.1 hq
    have hk' := List.getElem?_eq_getElem hk
    rcases Nat.lt_trichotomy k i with h1 | h1 | h1
    · have := H.low k _ h1 hk'
      rw [hqn, bl_irrefl] at this
      cases this
    · subst h1
      rw [hk'] at hp
      cases hp
      exact h hqn
    · have h2 := rising_at hr hp hk' h1
      rw [hqn, H.high i p (Nat.le_refl _) hp] at h2
      cases h2
theorem Halves.none {l : List Par} {n : Str} {i : Nat} (H : Halves l n i i) (hi : l.length ≤ i) : isPartnerN l n = false := by
  rw [isPartnerN, List.any_eq_false]
  intro q hq hqn
  have hqn : q.name = n := by simpa using hqn
  obtain ⟨k, hk, rfl⟩ := List.mem_iff_getElem.1 hq
  have := H.low k _ (by omega) (List.getElem?_eq_getElem hk)
  rw [hqn, bl_irrefl] at this
  cases this
end Go.Proofs.YthbhjladfniboaaDoor
namespace Go.Proofs.YthbhjladfniboaaDoor
set_option linter.unusedSimpArgs false
set_option linter.unusedVariables false
open Go.RowKit
set_option maxRecDepth 100000
set_option maxHeartbeats 1000000

theorem compare_sem (a b : Str) : Sem Tryd.prog 102 [.str a, .str b] (.int .i64 (Lib.compareBytes a b)) :=
  sem_vals (us := [.string ⟨a.toArray⟩, .string ⟨b.toArray⟩]) (v := .int .i64 (Lib.compareBytes a b)) rfl rfl (fun _ _ => .int _ _) fun w =>
    (Tryd.strings_Compare ⟨a.toArray⟩ ⟨b.toArray⟩ w).mono fun e w' ⟨h1, h2⟩ => ⟨h1, by rw [h2]; exact Ext.refl w⟩
theorem isPartner1_sem (p : Par) (n : Str) : Sem Tryd.prog 101 [.agg p.row, .str n] (.int .i64 (Lib.compareBytes p.name n)) := by
  refine sem_intro (M := fun t => mem t []) hT hM Tryd.func101 inferInstance rfl rfl rfl rfl rfl rfl ?_
  repeat' (
    (conv => whnf)
    first
      | ((with_reducible apply NumE.go); (conv => whnf); (with_reducible apply SideD.mk); (focus ((first | (intro hc; have hc0 := hc; (try simp only [SPLT] at hc); (try refine And.intro (by first | exact hc0 | exact ⟨hc0, hc0⟩ | exact ⟨hc0, hc0, hc0⟩) ?_)) | skip); first | exact shr_one _ | exact IntWalk.i64_in _ (by omega) | exact IntWalk.u8_in _ (by omega) | exact ⟨by omega, IntWalk.i64_quo _ _ ⟨by omega, by omega, by omega⟩⟩ | exact ⟨by omega, IntWalk.rem_in _ _ (by omega)⟩ | exact IntWalk.u64_in _ (by omega) | exact IntWalk.i32_in _ (by omega) | exact rfl | exact ⟨by omega, rfl⟩ | exact ⟨by omega, (by decide), IntWalk.i64_in _ (by omega)⟩ | exact ⟨by omega, (by decide), rfl⟩ | exact ⟨by omega, (by show _ ≤ (64 : Int); omega), rfl⟩ | exact hc0 | exact ⟨hc0, hc0⟩ | exact ⟨hc0, hc0, hc0⟩ | (simp only [Bool.and_eq_true] at hc0; simp [hc0]; done) | (simp_all; done))))
      | ((with_reducible apply IdxE.go); (conv => whnf); (with_reducible apply SideD.mk); (focus ((first | (intro hc; have hc0 := hc; (try simp only [SPLT] at hc); (try refine And.intro (by first | exact hc0 | exact ⟨hc0, hc0⟩ | exact ⟨hc0, hc0, hc0⟩) ?_)) | skip); first | exact idx_nat (by assumption) | exact idx_some (by omega) (by assumption) | exact idx_eq (by assumption) (by omega) | exact hc0 | exact ⟨hc0, hc0⟩ | exact ⟨hc0, hc0, hc0⟩ | (simp only [Bool.and_eq_true] at hc0; simp [hc0]; done) | (simp_all; done))))
      | ((with_reducible apply TextE.go); (conv => whnf); (with_reducible apply SideD.mk); (focus ((first | (intro hc; have hc0 := hc; (try simp only [SPLT] at hc); (try refine And.intro (by first | exact hc0 | exact ⟨hc0, hc0⟩ | exact ⟨hc0, hc0, hc0⟩) ?_)) | skip); first | exact rfl | assumption | exact hc0 | exact ⟨hc0, hc0⟩ | exact ⟨hc0, hc0, hc0⟩ | (simp only [Bool.and_eq_true] at hc0; simp [hc0]; done) | (simp_all; done))))
      | ((with_reducible apply LookE.go); (conv => whnf); (with_reducible apply SideD.mk); (focus ((first | (intro hc; have hc0 := hc; (try simp only [SPLT] at hc); (try refine And.intro (by first | exact hc0 | exact ⟨hc0, hc0⟩ | exact ⟨hc0, hc0, hc0⟩) ?_)) | skip); first | exact ⟨rfl, rfl⟩ | exact rfl | exact hc0 | exact ⟨hc0, hc0⟩ | exact ⟨hc0, hc0, hc0⟩ | (simp only [Bool.and_eq_true] at hc0; simp [hc0]; done) | (simp_all; done))))
      | ((with_reducible apply CallE.go); (conv => whnf); (with_reducible apply SideD.mk); (focus ((first | (intro hc; have hc0 := hc; (try simp only [SPLT] at hc); (try refine And.intro (by first | exact hc0 | exact ⟨hc0, hc0⟩ | exact ⟨hc0, hc0, hc0⟩) ?_)) | skip); first | ((try apply givesl); (focus (first | ((apply gives_go (compare_sem _ _)); (focus (first | exact DLes.refl _ | (repeat (first | exact DLes.nil | ((apply DLes.cons); (focus (first | exact DLe.refl _ | exact DLe.own _ _ | exact DLe.nil _ _ | exact DLe.any _))))))); (focus exact rfl); (all_goals (first | exact rfl | assumption | omega | (simp; omega) | (simp; done)))))); (all_goals exact rfl)) | exact hc0 | exact ⟨hc0, hc0⟩ | exact ⟨hc0, hc0, hc0⟩ | (simp only [Bool.and_eq_true] at hc0; simp [hc0]; done) | (simp_all; done))))
      | ((with_reducible apply CallO.go); (conv => whnf); (with_reducible apply SideD.mk); (focus (first | fail)))
      | ((with_reducible apply SideD.mk); (focus ((first | (intro hc; have hc0 := hc; (try simp only [SPLT] at hc); (try refine And.intro (by first | exact hc0 | exact ⟨hc0, hc0⟩ | exact ⟨hc0, hc0, hc0⟩) ?_)) | skip); first | exact ⟨by omega, by omega⟩ | omega | exact ⟨rfl, rfl, by simp only [List.length_map, List.length_append, List.length_cons, List.length_nil]; omega⟩ | exact ⟨rfl, rfl, by simp; omega⟩ | exact ⟨rfl, rfl, by omega⟩ | exact ⟨rfl, by simp; omega⟩ | exact id | (intro h; simp [h]; done) | ((repeat (first | exact trivial | exact rfl | apply And.intro)); done) | (simp; omega) | (refine ⟨?_, ?_, ?_⟩ <;> (simp; omega)) | (refine ⟨?_, ?_, ?_⟩ <;> first | omega | (simp; done) | (simp; omega)) | exact hc0 | exact ⟨hc0, hc0⟩ | exact ⟨hc0, hc0, hc0⟩ | (simp only [Bool.and_eq_true] at hc0; simp [hc0]; done) | (simp_all; done))))
      | ((with_reducible apply DrawR.go0); (focus kernel_rfl))
      | ((with_reducible apply KerB.mk); (focus kernel_rfl))
      | with_reducible apply ends_ret
      | with_reducible apply ends_norm
      | with_reducible apply Halt'.mk
      | ((with_reducible apply CondD.mk) <;> intro hb <;> (try simp only [SPLT] at hb) <;> (try first | contradiction | exact absurd hb (by assumption) | exact absurd (by assumption) hb | (exfalso; omega))))
  all_goals (try exact (false : Bool))
  repeat' ((conv => whnf); first | exact trivial | with_reducible apply And.intro | with_reducible apply endsO_ret | with_reducible apply endsO_norm | exact DLes.nil | with_reducible exact DLe.refl _ | exact DLe.any _ | with_reducible apply DLes.cons | with_reducible exact rle_refl | exact rle_bool rfl | exact rle_int rfl | exact rle_nil rfl | exact rle_sl0 rfl)
  all_goals (conv => whnf)
theorem cmp_less : ∀ a b : Str, Lib.compareBytes a b < 0 ↔ Op.bytesLess a b = true
  | [], [] => by simp [Lib.compareBytes, bl_nil]
  | [], _ :: _ => by simp [Lib.compareBytes, Op.bytesLess]
  | _ :: _, [] => by simp [Lib.compareBytes, bl_nil]
  | x :: a, y :: b => by
    rw [bl_cons]
    unfold Lib.compareBytes
    have h1 : x < y ↔ x.toNat < y.toNat := Iff.rfl
    have h2 : y < x ↔ y.toNat < x.toNat := Iff.rfl
    by_cases hxy : x < y
    · rw [if_pos hxy]
      simp [h1.1 hxy]
    · rw [if_neg hxy]
      by_cases hyx : y < x
      · rw [if_pos hyx]
        have := h2.1 hyx
        refine ⟨fun h => by omega, ?_⟩
        rintro (h | ⟨rfl, _⟩) <;> omega
      · rw [if_neg hyx]
        have he : x = y := UInt8.toNat_inj.1 (by rw [h1] at hxy; rw [h2] at hyx; omega)
        subst he
        rw [cmp_less a b]
        simp
theorem cmp_eq : ∀ a b : Str, Lib.compareBytes a b = 0 ↔ a = b
  | [], [] => by simp [Lib.compareBytes]
  | [], _ :: _ => by simp [Lib.compareBytes]
  | _ :: _, [] => by simp [Lib.compareBytes]
  | x :: a, y :: b => by
    unfold Lib.compareBytes
    have h1 : x < y ↔ x.toNat < y.toNat := Iff.rfl
    have h2 : y < x ↔ y.toNat < x.toNat := Iff.rfl
    by_cases hxy : x < y
    · rw [if_pos hxy]
      have := h1.1 hxy
      refine ⟨fun h => by omega, fun h => ?_⟩
      cases h
      omega
    · rw [if_neg hxy]
      by_cases hyx : y < x
      · rw [if_pos hyx]
        have := h2.1 hyx
        refine ⟨fun h => by omega, fun h => ?_⟩
        cases h
        omega
      · rw [if_neg hyx]
        have he : x = y := UInt8.toNat_inj.1 (by rw [h1] at hxy; rw [h2] at hyx; omega)
        subst he
        rw [cmp_eq a b]
        simp
theorem halves_end {l : List Par} {n : Str} (hr : Rising l) : ∀ (m i j : Nat), j - i ≤ m → Halves l n i j → ∃ k, Halves l n k k
  | 0, i, j, hm, H => by
    have : i = j := by have := H.le; omega
    subst this
    exact ⟨i, H⟩
  | m + 1, i, j, hm, H => by
    by_cases hij : i = j
    · subst hij
      exact ⟨i, H⟩
    · have hle := H.le
      have hlj := H.lj
      have hp := List.getElem?_eq_getElem (l := l) (i := i) (by omega)
      cases hc : Op.bytesLess (l[i]).name n with
      | true => exact halves_end hr m (i + 1) j (by omega) (H.right hr (Nat.le_refl _) (by omega) hp hc)
      | false => exact ⟨i, H.left hr (Nat.le_refl _) (by omega) hp hc⟩
theorem halves_one {l : List Par} {n : Str} {i j : Nat} (H : Halves l n i i) (K : Halves l n j j) : i = j := by
  have key : ∀ {i j : Nat}, Halves l n i i → Halves l n j j → ¬ i < j := fun {i j} H K h => by
    have hj := K.lj
    have hp := List.getElem?_eq_getElem (l := l) (i := i) (by omega)
    have h1 := K.low i _ h hp
    rw [H.high i _ (Nat.le_refl _) hp] at h1
    cases h1
  have h1 := key H K
  have h2 := key K H
  omega
theorem binSearch_sem (l : List Par) (n : Str) (hl : l.length ≤ 1000000) (hr : Rising l) (i : Nat) (hi : Halves l n i i) : Sem Tryd.prog 100 [.sl 0 2 (l.map Par.row), .str n, .fn 101 []] (.tup [.int .i64 i, .bool (isPartnerN l n)]) := by
  refine sem_intro (M := fun t => mem t []) hT hM Tryd.func100 inferInstance rfl rfl rfl rfl rfl rfl ?_
  repeat' (
    (conv => whnf)
    first
      | ((with_reducible apply NumE.go); (conv => whnf); (with_reducible apply SideD.mk); (focus ((first | (intro hc; have hc0 := hc; (try simp only [SPLT] at hc); (try refine And.intro (by first | exact hc0 | exact ⟨hc0, hc0⟩ | exact ⟨hc0, hc0, hc0⟩) ?_)) | skip); first | exact shr_one _ | exact IntWalk.i64_in _ (by omega) | exact IntWalk.u8_in _ (by omega) | exact ⟨by omega, IntWalk.i64_quo _ _ ⟨by omega, by omega, by omega⟩⟩ | exact ⟨by omega, IntWalk.rem_in _ _ (by omega)⟩ | exact IntWalk.u64_in _ (by omega) | exact IntWalk.i32_in _ (by omega) | exact rfl | exact ⟨by omega, rfl⟩ | exact ⟨by omega, (by decide), IntWalk.i64_in _ (by omega)⟩ | exact ⟨by omega, (by decide), rfl⟩ | exact ⟨by omega, (by show _ ≤ (64 : Int); omega), rfl⟩ | exact hc0 | exact ⟨hc0, hc0⟩ | exact ⟨hc0, hc0, hc0⟩ | (simp only [Bool.and_eq_true] at hc0; simp [hc0]; done) | (simp_all; done))))
      | ((with_reducible apply IdxE.go); (conv => whnf); (with_reducible apply SideD.mk); (focus ((first | (intro hc; have hc0 := hc; (try simp only [SPLT] at hc); (try refine And.intro (by first | exact hc0 | exact ⟨hc0, hc0⟩ | exact ⟨hc0, hc0, hc0⟩) ?_)) | skip); first | exact idx_nat (by assumption) | exact idx_some (by omega) (by assumption) | exact idx_eq (by assumption) (by omega) | exact hc0 | exact ⟨hc0, hc0⟩ | exact ⟨hc0, hc0, hc0⟩ | (simp only [Bool.and_eq_true] at hc0; simp [hc0]; done) | (simp_all; done))))
      | ((with_reducible apply TextE.go); (conv => whnf); (with_reducible apply SideD.mk); (focus ((first | (intro hc; have hc0 := hc; (try simp only [SPLT] at hc); (try refine And.intro (by first | exact hc0 | exact ⟨hc0, hc0⟩ | exact ⟨hc0, hc0, hc0⟩) ?_)) | skip); first | exact rfl | assumption | exact hc0 | exact ⟨hc0, hc0⟩ | exact ⟨hc0, hc0, hc0⟩ | (simp only [Bool.and_eq_true] at hc0; simp [hc0]; done) | (simp_all; done))))
      | ((with_reducible apply LookE.go); (conv => whnf); (with_reducible apply SideD.mk); (focus ((first | (intro hc; have hc0 := hc; (try simp only [SPLT] at hc); (try refine And.intro (by first | exact hc0 | exact ⟨hc0, hc0⟩ | exact ⟨hc0, hc0, hc0⟩) ?_)) | skip); first | exact ⟨rfl, rfl⟩ | exact rfl | exact hc0 | exact ⟨hc0, hc0⟩ | exact ⟨hc0, hc0, hc0⟩ | (simp only [Bool.and_eq_true] at hc0; simp [hc0]; done) | (simp_all; done))))
      | ((with_reducible apply CallE.go); (conv => whnf); (with_reducible apply SideD.mk); (focus ((first | (intro hc; have hc0 := hc; (try simp only [SPLT] at hc); (try refine And.intro (by first | exact hc0 | exact ⟨hc0, hc0⟩ | exact ⟨hc0, hc0, hc0⟩) ?_)) | skip); first | ((try apply givesl); (focus (first | ((apply gives_go (isPartner1_sem _ _)); (focus (first | exact DLes.refl _ | (repeat (first | exact DLes.nil | ((apply DLes.cons); (focus (first | exact DLe.refl _ | exact DLe.own _ _ | exact DLe.nil _ _ | exact DLe.any _))))))); (focus exact rfl); (all_goals (first | exact rfl | assumption | omega | (simp; omega) | (simp; done)))))); (all_goals exact rfl)) | exact hc0 | exact ⟨hc0, hc0⟩ | exact ⟨hc0, hc0, hc0⟩ | (simp only [Bool.and_eq_true] at hc0; simp [hc0]; done) | (simp_all; done))))
      | ((with_reducible apply CallO.go); (conv => whnf); (with_reducible apply SideD.mk); (focus (first | fail)))
      | ((with_reducible apply SideD.mk); (focus ((first | (intro hc; have hc0 := hc; (try simp only [SPLT] at hc); (try refine And.intro (by first | exact hc0 | exact ⟨hc0, hc0⟩ | exact ⟨hc0, hc0, hc0⟩) ?_)) | skip); first | exact ⟨by omega, by omega⟩ | omega | exact ⟨rfl, rfl, by simp only [List.length_map, List.length_append, List.length_cons, List.length_nil]; omega⟩ | exact ⟨rfl, rfl, by simp; omega⟩ | exact ⟨rfl, rfl, by omega⟩ | exact ⟨rfl, by simp; omega⟩ | exact id | (intro h; simp [h]; done) | ((repeat (first | exact trivial | exact rfl | apply And.intro)); done) | (simp; omega) | (refine ⟨?_, ?_, ?_⟩ <;> (simp; omega)) | (refine ⟨?_, ?_, ?_⟩ <;> first | omega | (simp; done) | (simp; omega)) | exact hc0 | exact ⟨hc0, hc0⟩ | exact ⟨hc0, hc0, hc0⟩ | (simp only [Bool.and_eq_true] at hc0; simp [hc0]; done) | (simp_all; done))))
      | ((with_reducible apply DrawR.go0); (focus kernel_rfl))
      | ((with_reducible apply KerB.mk); (focus kernel_rfl))
      | with_reducible apply ends_ret
      | with_reducible apply ends_norm
      | with_reducible apply Halt'.mk
      | ((with_reducible apply CondD.mk) <;> intro hb <;> (try simp only [SPLT] at hb) <;> (try first | contradiction | exact absurd hb (by assumption) | exact absurd (by assumption) hb | (exfalso; omega))))
  all_goals (try exact (false : Bool))
  refine loop_go (M := fun t => mem t []) hT hM (fun x : Nat × Nat => [(9, .int .i64 x.1), (10, .int .i64 x.2)]) (fun x => Halves l n x.1 x.2) (fun x => x.2 - x.1) ((0, l.length)) ?_ ?_ ?_
  · (conv => whnf)
    refine ⟨?_, by rfl⟩
    repeat' ((conv => whnf); first | exact DLes.nil | with_reducible exact DLe.refl _ | exact DLe.any _ | with_reducible apply DLes.cons | exact DLe.refl _ | exact dle_int (by omega) | exact dle_nil rfl | exact DLe.own _ _ | (exact dle_int (by simp)))
  · exact Halves.start l n
  · rintro x hx
    have hle := hx.le
    have hlj := hx.lj
    by_cases hlt : x.1 < x.2
    · obtain ⟨p, hp⟩ : ∃ p, l[(x.1 + x.2) / 2]? = some p := ⟨l[(x.1 + x.2) / 2], List.getElem?_eq_getElem (by omega)⟩
      repeat' (
        (conv => whnf)
        first
          | ((with_reducible apply NumE.go); (conv => whnf); (with_reducible apply SideD.mk); (focus ((first | (intro hc; have hc0 := hc; (try simp only [SPLT] at hc); (try refine And.intro (by first | exact hc0 | exact ⟨hc0, hc0⟩ | exact ⟨hc0, hc0, hc0⟩) ?_)) | skip); first | exact shr_one _ | exact IntWalk.i64_in _ (by omega) | exact IntWalk.u8_in _ (by omega) | exact ⟨by omega, IntWalk.i64_quo _ _ ⟨by omega, by omega, by omega⟩⟩ | exact ⟨by omega, IntWalk.rem_in _ _ (by omega)⟩ | exact IntWalk.u64_in _ (by omega) | exact IntWalk.i32_in _ (by omega) | exact rfl | exact ⟨by omega, rfl⟩ | exact ⟨by omega, (by decide), IntWalk.i64_in _ (by omega)⟩ | exact ⟨by omega, (by decide), rfl⟩ | exact ⟨by omega, (by show _ ≤ (64 : Int); omega), rfl⟩ | exact hc0 | exact ⟨hc0, hc0⟩ | exact ⟨hc0, hc0, hc0⟩ | (simp only [Bool.and_eq_true] at hc0; simp [hc0]; done) | (simp_all; done))))
          | ((with_reducible apply IdxE.go); (conv => whnf); (with_reducible apply SideD.mk); (focus ((first | (intro hc; have hc0 := hc; (try simp only [SPLT] at hc); (try refine And.intro (by first | exact hc0 | exact ⟨hc0, hc0⟩ | exact ⟨hc0, hc0, hc0⟩) ?_)) | skip); first | exact idx_nat (by assumption) | exact idx_some (by omega) (by assumption) | exact idx_eq (by assumption) (by omega) | exact idx_eq hp (by omega) | exact hc0 | exact ⟨hc0, hc0⟩ | exact ⟨hc0, hc0, hc0⟩ | (simp only [Bool.and_eq_true] at hc0; simp [hc0]; done) | (simp_all; done))))
          | ((with_reducible apply TextE.go); (conv => whnf); (with_reducible apply SideD.mk); (focus ((first | (intro hc; have hc0 := hc; (try simp only [SPLT] at hc); (try refine And.intro (by first | exact hc0 | exact ⟨hc0, hc0⟩ | exact ⟨hc0, hc0, hc0⟩) ?_)) | skip); first | exact rfl | assumption | (exact idx_eq hp (by omega)) | exact hc0 | exact ⟨hc0, hc0⟩ | exact ⟨hc0, hc0, hc0⟩ | (simp only [Bool.and_eq_true] at hc0; simp [hc0]; done) | (simp_all; done))))
          | ((with_reducible apply LookE.go); (conv => whnf); (with_reducible apply SideD.mk); (focus ((first | (intro hc; have hc0 := hc; (try simp only [SPLT] at hc); (try refine And.intro (by first | exact hc0 | exact ⟨hc0, hc0⟩ | exact ⟨hc0, hc0, hc0⟩) ?_)) | skip); first | (exact idx_eq hp (by omega)) | exact ⟨rfl, rfl⟩ | exact rfl | exact hc0 | exact ⟨hc0, hc0⟩ | exact ⟨hc0, hc0, hc0⟩ | (simp only [Bool.and_eq_true] at hc0; simp [hc0]; done) | (simp_all; done))))
          | ((with_reducible apply CallE.go); (conv => whnf); (with_reducible apply SideD.mk); (focus ((first | (intro hc; have hc0 := hc; (try simp only [SPLT] at hc); (try refine And.intro (by first | exact hc0 | exact ⟨hc0, hc0⟩ | exact ⟨hc0, hc0, hc0⟩) ?_)) | skip); first | ((try apply givesl); (focus (first | ((apply gives_go (isPartner1_sem _ _)); (focus (first | exact DLes.refl _ | (repeat (first | exact DLes.nil | ((apply DLes.cons); (focus (first | exact DLe.refl _ | exact DLe.own _ _ | exact DLe.nil _ _ | exact DLe.any _))))))); (focus exact rfl); (all_goals (first | exact rfl | assumption | omega | (simp; omega) | (simp; done)))))); (all_goals exact rfl)) | exact hc0 | exact ⟨hc0, hc0⟩ | exact ⟨hc0, hc0, hc0⟩ | (simp only [Bool.and_eq_true] at hc0; simp [hc0]; done) | (simp_all; done))))
          | ((with_reducible apply CallO.go); (conv => whnf); (with_reducible apply SideD.mk); (focus (first | fail)))
          | ((with_reducible apply SideD.mk); (focus ((first | (intro hc; have hc0 := hc; (try simp only [SPLT] at hc); (try refine And.intro (by first | exact hc0 | exact ⟨hc0, hc0⟩ | exact ⟨hc0, hc0, hc0⟩) ?_)) | skip); first | exact ⟨by omega, by omega⟩ | omega | exact ⟨rfl, rfl, by simp only [List.length_map, List.length_append, List.length_cons, List.length_nil]; omega⟩ | exact ⟨rfl, rfl, by simp; omega⟩ | exact ⟨rfl, rfl, by omega⟩ | exact ⟨rfl, by simp; omega⟩ | exact id | (intro h; simp [h]; done) | ((repeat (first | exact trivial | exact rfl | apply And.intro)); done) | (simp; omega) | (refine ⟨?_, ?_, ?_⟩ <;> (simp; omega)) | (refine ⟨?_, ?_, ?_⟩ <;> first | omega | (simp; done) | (simp; omega)) | exact hc0 | exact ⟨hc0, hc0⟩ | exact ⟨hc0, hc0, hc0⟩ | (simp only [Bool.and_eq_true] at hc0; simp [hc0]; done) | (simp_all; done))))
          | ((with_reducible apply DrawR.go0); (focus kernel_rfl))
          | ((with_reducible apply KerB.mk); (focus kernel_rfl))
          | with_reducible apply ends_ret
          | with_reducible apply ends_norm
          | with_reducible apply Halt'.mk
          | ((with_reducible apply CondD.mk) <;> intro hb <;> (try simp only [SPLT] at hb) <;> (try first | contradiction | exact absurd hb (by assumption) | exact absurd (by assumption) hb | (exfalso; omega))))
      all_goals (try exact (false : Bool))
      · refine ⟨((x.1 + x.2) / 2 + 1, x.2), hx.right hr (by omega) (by omega) hp ((cmp_less _ _).1 hb), by simp only; omega, ?_⟩
        (conv => whnf)
        refine ⟨?_, by rfl⟩
        repeat' ((conv => whnf); first | exact DLes.nil | with_reducible exact DLe.refl _ | exact DLe.any _ | with_reducible apply DLes.cons | exact DLe.refl _ | exact dle_int (by omega) | exact dle_nil rfl | exact DLe.own _ _ | (exact dle_int (by omega)))
      · refine ⟨(x.1, (x.1 + x.2) / 2), hx.left hr (by omega) (by omega) hp (by rw [Bool.eq_false_iff]; intro h; have := (cmp_less p.name n).2 h; omega), by simp only; omega, ?_⟩
        (conv => whnf)
        refine ⟨?_, by rfl⟩
        repeat' ((conv => whnf); first | exact DLes.nil | with_reducible exact DLe.refl _ | exact DLe.any _ | with_reducible apply DLes.cons | exact DLe.refl _ | exact dle_int (by omega) | exact dle_nil rfl | exact DLe.own _ _ | (exact dle_int (by omega)))
    · have he : x.2 = x.1 := by omega
      have hx' : Halves l n x.1 x.1 := by rw [he] at hx; exact hx
      have hii := halves_one hi hx'
      obtain ⟨q, hq⟩ : ∃ q : Par, x.1 < l.length → l[x.1]? = some q := by
        by_cases h : x.1 < l.length
        · exact ⟨l[x.1], fun _ => List.getElem?_eq_getElem h⟩
        · exact ⟨⟨[], []⟩, fun h' => absurd h' h⟩
      have hfin : isPartnerN l n = (decide ((x.1 : Int) < l.length) && (Lib.compareBytes q.name n == 0)) := by
        by_cases h : x.1 < l.length
        · have hd : decide ((x.1 : Int) < l.length) = true := decide_eq_true (by omega)
          rw [hx'.some hr (hq h), hd, Bool.true_and, Bool.eq_iff_iff, decide_eq_true_eq, beq_iff_eq, cmp_eq]
        · have hd : decide ((x.1 : Int) < l.length) = false := decide_eq_false (by omega)
          rw [hx'.none (by omega), hd, Bool.false_and]
      repeat' (
        (conv => whnf)
        first
          | ((with_reducible apply NumE.go); (conv => whnf); (with_reducible apply SideD.mk); (focus ((first | (intro hc; have hc0 := hc; (try simp only [SPLT] at hc); (try refine And.intro (by first | exact hc0 | exact ⟨hc0, hc0⟩ | exact ⟨hc0, hc0, hc0⟩) ?_)) | skip); first | exact shr_one _ | exact IntWalk.i64_in _ (by omega) | exact IntWalk.u8_in _ (by omega) | exact ⟨by omega, IntWalk.i64_quo _ _ ⟨by omega, by omega, by omega⟩⟩ | exact ⟨by omega, IntWalk.rem_in _ _ (by omega)⟩ | exact IntWalk.u64_in _ (by omega) | exact IntWalk.i32_in _ (by omega) | exact rfl | exact ⟨by omega, rfl⟩ | exact ⟨by omega, (by decide), IntWalk.i64_in _ (by omega)⟩ | exact ⟨by omega, (by decide), rfl⟩ | exact ⟨by omega, (by show _ ≤ (64 : Int); omega), rfl⟩ | exact hc0 | exact ⟨hc0, hc0⟩ | exact ⟨hc0, hc0, hc0⟩ | (simp only [Bool.and_eq_true] at hc0; simp [hc0]; done) | (simp_all; done))))
          | ((with_reducible apply IdxE.go); (conv => whnf); (with_reducible apply SideD.mk); (focus ((first | (intro hc; have hc0 := hc; (try simp only [SPLT] at hc); (try refine And.intro (by first | exact hc0 | exact ⟨hc0, hc0⟩ | exact ⟨hc0, hc0, hc0⟩) ?_)) | skip); first | exact idx_nat (by assumption) | exact idx_some (by omega) (by assumption) | exact idx_eq (by assumption) (by omega) | exact idx_eq (hq (by omega)) (by omega) | exact hc0 | exact ⟨hc0, hc0⟩ | exact ⟨hc0, hc0, hc0⟩ | (simp only [Bool.and_eq_true] at hc0; simp [hc0]; done) | (simp_all; done))))
          | ((with_reducible apply TextE.go); (conv => whnf); (with_reducible apply SideD.mk); (focus ((first | (intro hc; have hc0 := hc; (try simp only [SPLT] at hc); (try refine And.intro (by first | exact hc0 | exact ⟨hc0, hc0⟩ | exact ⟨hc0, hc0, hc0⟩) ?_)) | skip); first | exact rfl | assumption | (exact idx_eq (hq (by omega)) (by omega)) | exact hc0 | exact ⟨hc0, hc0⟩ | exact ⟨hc0, hc0, hc0⟩ | (simp only [Bool.and_eq_true] at hc0; simp [hc0]; done) | (simp_all; done))))
          | ((with_reducible apply LookE.go); (conv => whnf); (with_reducible apply SideD.mk); (focus ((first | (intro hc; have hc0 := hc; (try simp only [SPLT] at hc); (try refine And.intro (by first | exact hc0 | exact ⟨hc0, hc0⟩ | exact ⟨hc0, hc0, hc0⟩) ?_)) | skip); first | (exact idx_eq (hq (by omega)) (by omega)) | exact ⟨rfl, rfl⟩ | exact rfl | exact hc0 | exact ⟨hc0, hc0⟩ | exact ⟨hc0, hc0, hc0⟩ | (simp only [Bool.and_eq_true] at hc0; simp [hc0]; done) | (simp_all; done))))
          | ((with_reducible apply CallE.go); (conv => whnf); (with_reducible apply SideD.mk); (focus ((first | (intro hc; have hc0 := hc; (try simp only [SPLT] at hc); (try refine And.intro (by first | exact hc0 | exact ⟨hc0, hc0⟩ | exact ⟨hc0, hc0, hc0⟩) ?_)) | skip); first | ((try apply givesl); (focus (first | ((apply gives_go (isPartner1_sem _ _)); (focus (first | exact DLes.refl _ | (repeat (first | exact DLes.nil | ((apply DLes.cons); (focus (first | exact DLe.refl _ | exact DLe.own _ _ | exact DLe.nil _ _ | exact DLe.any _))))))); (focus exact rfl); (all_goals (first | exact rfl | assumption | omega | (simp; omega) | (simp; done)))))); (all_goals exact rfl)) | exact hc0 | exact ⟨hc0, hc0⟩ | exact ⟨hc0, hc0, hc0⟩ | (simp only [Bool.and_eq_true] at hc0; simp [hc0]; done) | (simp_all; done))))
          | ((with_reducible apply CallO.go); (conv => whnf); (with_reducible apply SideD.mk); (focus (first | fail)))
          | ((with_reducible apply SideD.mk); (focus ((first | (intro hc; have hc0 := hc; (try simp only [SPLT] at hc); (try refine And.intro (by first | exact hc0 | exact ⟨hc0, hc0⟩ | exact ⟨hc0, hc0, hc0⟩) ?_)) | skip); first | exact ⟨by omega, by omega⟩ | omega | exact ⟨rfl, rfl, by simp only [List.length_map, List.length_append, List.length_cons, List.length_nil]; omega⟩ | exact ⟨rfl, rfl, by simp; omega⟩ | exact ⟨rfl, rfl, by omega⟩ | exact ⟨rfl, by simp; omega⟩ | exact id | (intro h; simp [h]; done) | ((repeat (first | exact trivial | exact rfl | apply And.intro)); done) | (simp; omega) | (refine ⟨?_, ?_, ?_⟩ <;> (simp; omega)) | (refine ⟨?_, ?_, ?_⟩ <;> first | omega | (simp; done) | (simp; omega)) | exact hc0 | exact ⟨hc0, hc0⟩ | exact ⟨hc0, hc0, hc0⟩ | (simp only [Bool.and_eq_true] at hc0; simp [hc0]; done) | (simp_all; done))))
          | ((with_reducible apply DrawR.go0); (focus kernel_rfl))
          | ((with_reducible apply KerB.mk); (focus kernel_rfl))
          | with_reducible apply ends_ret
          | with_reducible apply ends_norm
          | with_reducible apply Halt'.mk
          | ((with_reducible apply CondD.mk) <;> intro hb <;> (try simp only [SPLT] at hb) <;> (try first | contradiction | exact absurd hb (by assumption) | exact absurd (by assumption) hb | (exfalso; omega))))
      all_goals (try exact (false : Bool))
      repeat' ((conv => whnf); first | exact trivial | with_reducible apply And.intro | with_reducible apply endsO_ret | with_reducible apply endsO_norm | exact DLes.nil | with_reducible exact DLe.refl _ | exact DLe.any _ | with_reducible apply DLes.cons | with_reducible exact rle_refl | exact rle_bool rfl | exact rle_int rfl | exact rle_nil rfl | exact rle_sl0 rfl)
      all_goals (conv => whnf)
      · exact rle_int (by rw [hii])
      · refine rle_bool ?_
        rw [hfin]
        simp
theorem isPartner_sem (l : List Par) (n : Str) (hp : partnersN l = 0) : Sem Tryd.prog 65 [.sl 0 2 (l.map Par.row), .str n] (.bool (isPartnerN l n)) := by
  obtain ⟨hl, hr⟩ := partnersN_ok hp
  obtain ⟨i, hi⟩ := halves_end hr _ 0 l.length (Nat.le_refl _) (Halves.start l n)
  refine sem_intro (M := fun t => mem t []) hT hM Tryd.func65 inferInstance rfl rfl rfl rfl rfl rfl ?_
  repeat' (
    (conv => whnf)
    first
      | ((with_reducible apply NumE.go); (conv => whnf); (with_reducible apply SideD.mk); (focus ((first | (intro hc; have hc0 := hc; (try simp only [SPLT] at hc); (try refine And.intro (by first | exact hc0 | exact ⟨hc0, hc0⟩ | exact ⟨hc0, hc0, hc0⟩) ?_)) | skip); first | exact shr_one _ | exact IntWalk.i64_in _ (by omega) | exact IntWalk.u8_in _ (by omega) | exact ⟨by omega, IntWalk.i64_quo _ _ ⟨by omega, by omega, by omega⟩⟩ | exact ⟨by omega, IntWalk.rem_in _ _ (by omega)⟩ | exact IntWalk.u64_in _ (by omega) | exact IntWalk.i32_in _ (by omega) | exact rfl | exact ⟨by omega, rfl⟩ | exact ⟨by omega, (by decide), IntWalk.i64_in _ (by omega)⟩ | exact ⟨by omega, (by decide), rfl⟩ | exact ⟨by omega, (by show _ ≤ (64 : Int); omega), rfl⟩ | exact hc0 | exact ⟨hc0, hc0⟩ | exact ⟨hc0, hc0, hc0⟩ | (simp only [Bool.and_eq_true] at hc0; simp [hc0]; done) | (simp_all; done))))
      | ((with_reducible apply IdxE.go); (conv => whnf); (with_reducible apply SideD.mk); (focus ((first | (intro hc; have hc0 := hc; (try simp only [SPLT] at hc); (try refine And.intro (by first | exact hc0 | exact ⟨hc0, hc0⟩ | exact ⟨hc0, hc0, hc0⟩) ?_)) | skip); first | exact idx_nat (by assumption) | exact idx_some (by omega) (by assumption) | exact idx_eq (by assumption) (by omega) | exact hc0 | exact ⟨hc0, hc0⟩ | exact ⟨hc0, hc0, hc0⟩ | (simp only [Bool.and_eq_true] at hc0; simp [hc0]; done) | (simp_all; done))))
      | ((with_reducible apply TextE.go); (conv => whnf); (with_reducible apply SideD.mk); (focus ((first | (intro hc; have hc0 := hc; (try simp only [SPLT] at hc); (try refine And.intro (by first | exact hc0 | exact ⟨hc0, hc0⟩ | exact ⟨hc0, hc0, hc0⟩) ?_)) | skip); first | exact rfl | assumption | exact hc0 | exact ⟨hc0, hc0⟩ | exact ⟨hc0, hc0, hc0⟩ | (simp only [Bool.and_eq_true] at hc0; simp [hc0]; done) | (simp_all; done))))
      | ((with_reducible apply LookE.go); (conv => whnf); (with_reducible apply SideD.mk); (focus ((first | (intro hc; have hc0 := hc; (try simp only [SPLT] at hc); (try refine And.intro (by first | exact hc0 | exact ⟨hc0, hc0⟩ | exact ⟨hc0, hc0, hc0⟩) ?_)) | skip); first | exact ⟨rfl, rfl⟩ | exact rfl | exact hc0 | exact ⟨hc0, hc0⟩ | exact ⟨hc0, hc0, hc0⟩ | (simp only [Bool.and_eq_true] at hc0; simp [hc0]; done) | (simp_all; done))))
      | ((with_reducible apply CallE.go); (conv => whnf); (with_reducible apply SideD.mk); (focus ((first | (intro hc; have hc0 := hc; (try simp only [SPLT] at hc); (try refine And.intro (by first | exact hc0 | exact ⟨hc0, hc0⟩ | exact ⟨hc0, hc0, hc0⟩) ?_)) | skip); first | ((try apply givesl); (focus (first | ((apply gives_go (binSearch_sem l n (by omega) hr i hi)); (focus (first | exact DLes.refl _ | (repeat (first | exact DLes.nil | ((apply DLes.cons); (focus (first | exact DLe.refl _ | exact DLe.own _ _ | exact DLe.nil _ _ | exact DLe.any _))))))); (focus exact rfl); (all_goals (first | exact rfl | assumption | omega | (simp; omega) | (simp; done)))) | ((apply gives_go (binSearch_sem _ _ _ _ _ _)); (focus (first | exact DLes.refl _ | (repeat (first | exact DLes.nil | ((apply DLes.cons); (focus (first | exact DLe.refl _ | exact DLe.own _ _ | exact DLe.nil _ _ | exact DLe.any _))))))); (focus exact rfl); (all_goals (first | exact rfl | assumption | omega | (simp; omega) | (simp; done)))))); (all_goals exact rfl)) | exact hc0 | exact ⟨hc0, hc0⟩ | exact ⟨hc0, hc0, hc0⟩ | (simp only [Bool.and_eq_true] at hc0; simp [hc0]; done) | (simp_all; done))))
      | ((with_reducible apply CallO.go); (conv => whnf); (with_reducible apply SideD.mk); (focus (first | fail)))
      | ((with_reducible apply SideD.mk); (focus ((first | (intro hc; have hc0 := hc; (try simp only [SPLT] at hc); (try refine And.intro (by first | exact hc0 | exact ⟨hc0, hc0⟩ | exact ⟨hc0, hc0, hc0⟩) ?_)) | skip); first | exact ⟨by omega, by omega⟩ | omega | exact ⟨rfl, rfl, by simp only [List.length_map, List.length_append, List.length_cons, List.length_nil]; omega⟩ | exact ⟨rfl, rfl, by simp; omega⟩ | exact ⟨rfl, rfl, by omega⟩ | exact ⟨rfl, by simp; omega⟩ | exact id | (intro h; simp [h]; done) | ((repeat (first | exact trivial | exact rfl | apply And.intro)); done) | (simp; omega) | (refine ⟨?_, ?_, ?_⟩ <;> (simp; omega)) | (refine ⟨?_, ?_, ?_⟩ <;> first | omega | (simp; done) | (simp; omega)) | exact hc0 | exact ⟨hc0, hc0⟩ | exact ⟨hc0, hc0, hc0⟩ | (simp only [Bool.and_eq_true] at hc0; simp [hc0]; done) | (simp_all; done))))
      | ((with_reducible apply DrawR.go0); (focus kernel_rfl))
      | ((with_reducible apply KerB.mk); (focus kernel_rfl))
      | with_reducible apply ends_ret
      | with_reducible apply ends_norm
      | with_reducible apply Halt'.mk
      | ((with_reducible apply CondD.mk) <;> intro hb <;> (try simp only [SPLT] at hb) <;> (try first | contradiction | exact absurd hb (by assumption) | exact absurd (by assumption) hb | (exfalso; omega))))
  all_goals (try exact (false : Bool))
  repeat' ((conv => whnf); first | exact trivial | with_reducible apply And.intro | with_reducible apply endsO_ret | with_reducible apply endsO_norm | exact DLes.nil | with_reducible exact DLe.refl _ | exact DLe.any _ | with_reducible apply DLes.cons | with_reducible exact rle_refl | exact rle_bool rfl | exact rle_int rfl | exact rle_nil rfl | exact rle_sl0 rfl)
  all_goals (conv => whnf)
end Go.Proofs.YthbhjladfniboaaDoor
namespace Go.Proofs.YthbhjladfniboaaDoor
set_option linter.unusedSimpArgs false
set_option linter.unusedVariables false
open Go.RowKit

def zs (n : Nat) : Str := List.replicate (n + 1) 122
def otherK (ns : List Str) : Nat → Nat → Nat
  | 0, k => k
  | f + 1, k => if zs k ∈ ns then otherK ns f (k + 1) else k
/-- A name that is none of these. -/
def otherN (ns : List Str) : Str := zs (otherK ns ns.length 0)
theorem zs_inj {a b : Nat} (h : zs a = zs b) : a = b := by
  have := congrArg List.length h
  simpa [zs] using this
theorem zs_few : ∀ (k : Nat) (ns : List Str), (∀ j, j < k → zs j ∈ ns) → k ≤ ns.length
  | 0, _, _ => Nat.zero_le _
  | k + 1, ns, h => by
    have h1 := zs_few k (ns.erase (zs k)) (fun j hj => (List.mem_erase_of_ne (fun e => by have := zs_inj e; omega)).2 (h j (by omega)))
    have h2 := List.length_erase_of_mem (h k (by omega))
    have h3 := List.length_pos_of_mem (h k (by omega))
    omega
theorem otherK_ok {ns : List Str} : ∀ f k, f + k = ns.length → (∀ j, j < k → zs j ∈ ns) → zs (otherK ns f k) ∉ ns
  | 0, k, hk, h => fun hm => by
    have := zs_few (k + 1) ns (fun j hj => by
      by_cases hjk : j = k
      · subst hjk; exact hm
      · exact h j (by omega))
    omega
  | f + 1, k, hk, h => by
    unfold otherK
    split
    · rename_i hz
      exact otherK_ok f (k + 1) (by omega) (fun j hj => by
        by_cases hjk : j = k
        · subst hjk; exact hz
        · exact h j (by omega))
    · assumption
theorem otherN_ok (ns : List Str) : otherN ns ∉ ns := otherK_ok _ 0 (by omega) (fun j hj => by omega)
theorem other_next {ns : List Str} {k : Nat} (hk : zs k ∈ ns) (h : ∀ j, j < k → zs j ∈ ns) : k + 1 ≤ ns.length ∧ otherK ns (ns.length - k) k = otherK ns (ns.length - (k + 1)) (k + 1) := by
  have := zs_few (k + 1) ns (fun j hj => by
    by_cases hjk : j = k
    · subst hjk; exact hk
    · exact h j (by omega))
  refine ⟨this, ?_⟩
  rw [show ns.length - k = (ns.length - (k + 1)) + 1 by omega, otherK, if_pos hk]
theorem other_end {ns : List Str} {k : Nat} (hk : zs k ∉ ns) : ∀ n, otherK ns n k = k
  | 0 => rfl
  | n + 1 => by rw [otherK, if_neg hk]
def ownOr (s t : Str) : Str := if s = [] then t else s
def akin (a x : Agr) : Bool := (x.fr == a.fr) && (x.tgt == a.tgt) && (x.test == a.test)
def nearL (a : Agr) (l : List Agr) : List Agr := l.filter (akin a)
def Agr.cas (a : Agr) (m v : Str) (d : Int) : Cas := ⟨a.fr, a.tgt, m, v, d, a.test⟩
/-- Among those that matter this one has this number. -/
def atN (a : Agr) (l : List Agr) (i : Nat) : Nat := (nearL a (l.take i)).length
def hidesD (nr : List Agr) (last : Int) (c : Cas) (b : Int) : List Int → Bool
  | [] => true
  | d :: r => if last < d then true else if findN nr (c.on d) = b then false else hidesD nr last c b r
def hidesA (l : List Agr) (m v : Str) (i : Nat) (a : Agr) : Bool := hidesD (nearL a l) a.last (a.cas (ownOr a.msg m) (ownOr a.ver v) a.first) (atN a l i) (changeL (nearL a l) a.first)
def hidesN (l : List Agr) (m v : Str) (i : Nat) : Bool := match l[i]? with
  | some a => hidesA l m v i a
  | none => true
def neverK (l : List Agr) (m v : Str) (k : Nat) : List Int := ((List.range k).filter (hidesN l m v)).map Int.ofNat
def msgsN (l : List Agr) : List Str := l.map (·.msg)
def versN (l : List Agr) : List Str := l.map (·.ver)
def NeverN (p : List Par) (l : List Agr) : List Int × Int := if agreementsN p l ≠ 0 then ([], agreementsN p l) else (neverK l (otherN (msgsN l)) (otherN (versN l)) l.length, 0)
theorem neverK_next {l : List Agr} {m v : Str} {k : Nat} : neverK l m v (k + 1) = neverK l m v k ++ if hidesN l m v k = true then [(k : Int)] else [] := by
  unfold neverK
  rw [List.range_succ, List.filter_append, List.map_append]
  congr 1
  by_cases h : hidesN l m v k = true <;> simp [h]
theorem neverK_mem {l : List Agr} {m v : Str} {k : Nat} {x : Int} (h : x ∈ neverK l m v k) : ∃ i : Nat, x = i ∧ i < k ∧ hidesN l m v i = true := by
  obtain ⟨i, hi, rfl⟩ := List.mem_map.1 h
  obtain ⟨h1, h2⟩ := List.mem_filter.1 hi
  exact ⟨i, rfl, List.mem_range.1 h1, h2⟩
theorem neverK_len (l : List Agr) (m v : Str) (k : Nat) : (neverK l m v k).length ≤ k := by
  unfold neverK
  rw [List.length_map]
  have := List.length_filter_le (hidesN l m v) (List.range k)
  simpa using this
theorem applies_iff (a : Agr) (c : Cas) : appliesB a c = true ↔ (a.fr = c.fr ∧ a.tgt = c.tgt ∧ a.test = c.test) ∧ (a.msg = [] ∨ a.msg = c.msg) ∧ (a.ver = [] ∨ a.ver = c.ver) ∧ a.first ≤ c.day ∧ c.day ≤ a.last := by
  simp only [appliesB, alikeB, outB, Bool.and_eq_true, Bool.or_eq_true, beq_iff_eq, Bool.not_eq_true', Bool.or_eq_false_iff, decide_eq_false_iff_not]
  constructor
  · rintro ⟨⟨⟨⟨⟨h1, h2⟩, h3⟩, h4⟩, h5⟩, h6, h7⟩
    exact ⟨⟨h1, h2, h5⟩, h3, h4, by omega, by omega⟩
  · rintro ⟨⟨h1, h2, h5⟩, h3, h4, h6, h7⟩
    exact ⟨⟨⟨⟨⟨h1, h2⟩, h3⟩, h4⟩, h5⟩, by omega, by omega⟩
theorem findN_bd (l : List Agr) (c : Cas) : -1 ≤ findN l c ∧ findN l c < l.length := findAt_bd l c l.length (Nat.le_refl _)
theorem findN_best (l : List Agr) (c : Cas) : Best l (fun a => appliesB a c = true) l.length (findN l c) := find_best l c l.length (Nat.le_refl _)
/-- Which is the best among more is the best among fewer. -/
theorem best_sub {l : List Agr} {c c' : Cas} {i : Nat} {a : Agr} (h : findN l c = i) (ha : l[i]? = some a) (hac : appliesB a c' = true) (hs : ∀ x ∈ l, appliesB x c' = true → appliesB x c = true) : findN l c' = i := by
  have hb := findN_best l c
  rw [h] at hb
  obtain ⟨g1, x, g2, g3, g4⟩ := hb.some (by omega)
  refine Best.eq (findN_best l c') (b' := (i : Int)) ⟨fun h0 => by omega, fun _ => ⟨g1, x, g2, ?_, fun j y hj hy hp => g4 j y hj hy (hs y (List.mem_of_getElem? hy) hp)⟩⟩ (findN_bd l c').1 (by omega)
  have : (i : Int).toNat = i := rfl
  rw [this, ha] at g2
  cases g2
  exact hac
theorem near_at {a x : Agr} : ∀ {l : List Agr} {j : Nat}, (nearL a l)[j]? = some x → ∃ i, l[i]? = some x ∧ j = atN a l i ∧ akin a x = true
  | [], j, h => by simp [nearL] at h
  | y :: l, j, h => by
    unfold nearL at h
    by_cases hy : akin a y = true
    · rw [List.filter_cons_of_pos hy] at h
      cases j with
      | zero => cases h; exact ⟨0, rfl, rfl, hy⟩
      | succ j =>
        obtain ⟨i, h1, h2, h3⟩ := near_at (l := l) (j := j) (by rw [List.getElem?_cons_succ] at h; exact h)
        refine ⟨i + 1, by simpa using h1, ?_, h3⟩
        simp only [atN, nearL, List.take_succ_cons, List.filter_cons_of_pos hy, List.length_cons] at h2 ⊢
        omega
    · rw [List.filter_cons_of_neg hy] at h
      obtain ⟨i, h1, h2, h3⟩ := near_at (l := l) (j := j) h
      refine ⟨i + 1, by simpa using h1, ?_, h3⟩
      simp only [atN, nearL, List.take_succ_cons, List.filter_cons_of_neg hy] at h2 ⊢
      exact h2
theorem at_near {a x : Agr} {l : List Agr} {i : Nat} (h : l[i]? = some x) (hx : akin a x = true) : (nearL a l)[atN a l i]? = some x := by
  have hs : l = l.take i ++ x :: l.drop (i + 1) := by rw [← drop_at h, List.take_append_drop]
  conv => lhs; rw [hs]
  unfold nearL atN
  rw [List.filter_append, List.filter_cons_of_pos hx]
  have : (l.take i ++ x :: l.drop (i + 1)).take i = l.take i := by rw [← hs]
  rw [this]
  unfold nearL
  rw [List.getElem?_append_right (Nat.le_refl _), Nat.sub_self]
  rfl
theorem at_mono {a : Agr} {l : List Agr} {i j : Nat} (h : i ≤ j) : atN a l i ≤ atN a l j := by
  have : l.take i = (l.take j).take i := by rw [List.take_take, Nat.min_eq_left h]
  unfold atN nearL
  rw [this]
  exact ((List.take_sublist i (l.take j)).filter _).length_le
theorem at_lt {a x : Agr} {l : List Agr} {i j : Nat} (h : i < j) (hi : l[i]? = some x) (hx : akin a x = true) : atN a l i < atN a l j := by
  have h1 := at_mono (a := a) (l := l) (show i + 1 ≤ j by omega)
  have h2 : atN a l (i + 1) = atN a l i + 1 := by
    unfold atN nearL
    rw [take_at hi, List.filter_append, List.filter_cons_of_pos hx]
    simp
  omega
/-- What is found among all is found among those that matter. -/
theorem near_find {l : List Agr} {a x : Agr} {c : Cas} {i : Nat} (h : findN l c = i) (hi : l[i]? = some x) (hx : akin a x = true) : findN (nearL a l) c = atN a l i := by
  have hb := findN_best l c
  rw [h] at hb
  obtain ⟨g1, y, g2, g3, g4⟩ := hb.some (by omega)
  have : (i : Int).toNat = i := rfl
  rw [this] at g2 g1 g4
  rw [hi] at g2
  cases g2
  have hn := at_near hi hx
  refine Best.eq (findN_best _ c) (b' := (atN a l i : Int)) ⟨fun h0 => by omega, fun _ => ⟨by have := (List.getElem?_eq_some_iff.1 hn).1; omega, x, hn, g3, fun j z hj hz hp => ?_⟩⟩ (findN_bd _ c).1 (by omega)
  obtain ⟨k, k1, k2, _⟩ := near_at hz
  obtain ⟨q1, q2⟩ := g4 k z (List.getElem?_eq_some_iff.1 k1).1 k1 hp
  refine ⟨q1, fun h0 => ?_⟩
  have := at_mono (a := a) (l := l) (q2 h0)
  show atN a l i ≤ j
  omega
theorem hidesD_true {nr : List Agr} {last b : Int} {c : Cas} : ∀ {ds : List Int}, ds.Pairwise (· < ·) → hidesD nr last c b ds = true → ∀ d ∈ ds, d ≤ last → findN nr (c.on d) ≠ b
  | [], _, _, d, hd, _ => by cases hd
  | x :: r, hp, h, d, hd, hl => by
    have hxr := mem_cons_pw hp
    unfold hidesD at h
    split at h
    · rcases List.mem_cons.1 hd with rfl | hd
      · omega
      · have := hxr d hd; omega
    · split at h
      · cases h
      · rename_i hne
        rcases List.mem_cons.1 hd with rfl | hd
        · exact hne
        · exact hidesD_true (List.pairwise_cons.1 hp).2 h d hd hl
theorem hidesD_false {nr : List Agr} {last b : Int} {c : Cas} : ∀ {ds : List Int}, hidesD nr last c b ds = false → ∃ d ∈ ds, d ≤ last ∧ findN nr (c.on d) = b
  | [], h => by cases h
  | x :: r, h => by
    unfold hidesD at h
    split at h
    · cases h
    · split at h
      · rename_i h1 h2
        exact ⟨x, by simp, by omega, h2⟩
      · obtain ⟨d, h1, h2, h3⟩ := hidesD_false h
        exact ⟨d, by simp [h1], h2, h3⟩
/-- The last one up to a day. -/
theorem last_le {e : Int} : ∀ (r : List Int) (x : Int), x ≤ e → (x :: r).Pairwise (· < ·) → ∃ d ∈ x :: r, d ≤ e ∧ ∀ y ∈ x :: r, d < y → e < y
  | [], x, h, _ => ⟨x, by simp, h, fun y hy hlt => by simp only [List.mem_singleton] at hy; omega⟩
  | y :: r, x, h, hp => by
    have hxr := mem_cons_pw hp
    have hp' := (List.pairwise_cons.1 hp).2
    have hyr := mem_cons_pw hp'
    by_cases hy : y ≤ e
    · obtain ⟨d, h1, h2, h3⟩ := last_le r y hy hp'
      refine ⟨d, List.mem_cons_of_mem _ h1, h2, fun z hz hlt => ?_⟩
      rcases List.mem_cons.1 hz with rfl | hz
      · have := hxr d h1; omega
      · exact h3 z hz hlt
    · refine ⟨x, by simp, h, fun z hz hlt => ?_⟩
      rcases List.mem_cons.1 hz with rfl | hz
      · omega
      · rcases List.mem_cons.1 hz with rfl | hz
        · omega
        · have := hyr z hz; omega
/-- Whatever case finds an agreement, one with a message and a version of its own finds it. -/
theorem own_finds {l : List Agr} {m v : Str} {i : Nat} {a : Agr} {c : Cas} (hm : m ∉ msgsN l) (hv : v ∉ versN l) (ha : l[i]? = some a) (h : findN l c = i) : findN l (a.cas (ownOr a.msg m) (ownOr a.ver v) c.day) = i ∧ a.first ≤ c.day ∧ c.day ≤ a.last := by
  have hb := findN_best l c
  rw [h] at hb
  obtain ⟨_, x, g2, g3, _⟩ := hb.some (by omega)
  have : (i : Int).toNat = i := rfl
  rw [this, ha] at g2
  cases g2
  obtain ⟨⟨e1, e2, e3⟩, e4, e5, e6, e7⟩ := (applies_iff a c).1 g3
  refine ⟨best_sub h ha ((applies_iff _ _).2 ⟨⟨rfl, rfl, rfl⟩, ?_, ?_, e6, e7⟩) fun x hx hp => ?_, e6, e7⟩
  · show a.msg = [] ∨ a.msg = ownOr a.msg m
    unfold ownOr; split
    · exact .inl (by assumption)
    · exact .inr rfl
  · show a.ver = [] ∨ a.ver = ownOr a.ver v
    unfold ownOr; split
    · exact .inl (by assumption)
    · exact .inr rfl
  · obtain ⟨⟨f1, f2, f3⟩, f4, f5, f6, f7⟩ := (applies_iff _ _).1 hp
    have f4 : x.msg = [] ∨ x.msg = ownOr a.msg m := f4
    have f5 : x.ver = [] ∨ x.ver = ownOr a.ver v := f5
    refine (applies_iff _ _).2 ⟨⟨f1.trans e1, f2.trans e2, f3.trans e3⟩, ?_, ?_, f6, f7⟩
    · rcases f4 with f4 | f4
      · exact .inl f4
      · by_cases h0 : a.msg = []
        · rw [ownOr, if_pos h0] at f4
          exact absurd (f4 ▸ List.mem_map_of_mem hx) hm
        · rw [ownOr, if_neg h0] at f4
          exact .inr (f4.trans (e4.resolve_left h0))
    · rcases f5 with f5 | f5
      · exact .inl f5
      · by_cases h0 : a.ver = []
        · rw [ownOr, if_pos h0] at f5
          exact absurd (f5 ▸ List.mem_map_of_mem hx) hv
        · rw [ownOr, if_neg h0] at f5
          exact .inr (f5.trans (e5.resolve_left h0))
/-- What hides is found by no case. -/
theorem hides_no {l : List Agr} {m v : Str} {i : Nat} (hm : m ∉ msgsN l) (hv : v ∉ versN l) (ho : ∀ a ∈ l, ownFaultN a = 0) (hi : i < l.length) (hh : hidesN l m v i = true) (c : Cas) : findN l c ≠ i := by
  intro h
  have ha : l[i]? = some l[i] := List.getElem?_eq_getElem hi
  have hal := ho l[i] (List.mem_of_getElem? ha)
  unfold hidesN at hh
  rw [ha] at hh
  simp only at hh
  generalize l[i] = a at *
  obtain ⟨h1, h2, h3⟩ := own_finds hm hv ha h
  obtain ⟨⟨b1, b2, b3, b4⟩, _⟩ := fit_of_own hal
  have h4 := near_find (a := a) h1 ha (by simp [akin])
  obtain ⟨r, r1, r2, r3⟩ := changeL_cons (nearL a l) a.first
  unfold hidesA at hh
  rw [r1] at hh
  obtain ⟨d, d1, d2, d3⟩ := last_le r a.first h2 r2
  have hd := hidesD_true r2 hh d d1 (by omega)
  apply hd
  rw [← h4]
  have hfd : a.first ≤ d := by
    rcases List.mem_cons.1 d1 with h | h
    · omega
    · have := mem_cons_pw r2 d h; omega
  exact find_on (l := nearL a l) (c := a.cas (ownOr a.msg m) (ownOr a.ver v) a.first) (e := c.day) hfd d2 (by omega) fun x hx hlt hle => by
    have hx' : x ∈ rawL (nearL a l) a.first := hx
    have := d3 x (List.mem_cons_of_mem _ ((r3 x).2 ⟨hx', by omega⟩)) hlt
    omega
theorem law13_plain {p : List Par} {l : List Agr} (h : agreementsN p l = 0) {x : Int} (hx : x ∈ (NeverN p l).1) : 0 ≤ x ∧ x < l.length ∧ ∀ c, findN l c ≠ x := by
  have he : NeverN p l = (neverK l (otherN (msgsN l)) (otherN (versN l)) l.length, 0) := by rw [NeverN, if_neg (by simpa using h)]
  rw [he] at hx
  obtain ⟨i, rfl, hi, hh⟩ := neverK_mem hx
  exact ⟨by omega, by omega, fun c => hides_no (otherN_ok _) (otherN_ok _) (agrFaults_ok (agreementsN_ok h).2.2) hi hh c⟩
end Go.Proofs.YthbhjladfniboaaDoor
