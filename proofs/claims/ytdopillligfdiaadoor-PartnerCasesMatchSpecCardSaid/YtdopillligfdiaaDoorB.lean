/- Contracts: names, and what is wrong with an agreement by itself. -/
import Derived.Test.YtdopillligfdiaaDoorA
import Derived.Test.YtdopillligfdiaaDoorShelf
namespace Go.Proofs.YtdopillligfdiaaDoor
set_option linter.unusedSimpArgs false
set_option linter.unusedVariables false
open Go.RowKit
set_option maxRecDepth 100000
set_option maxHeartbeats 1000000

theorem dropWhile_nil {α : Type} (p : α → Bool) (l : List α) : l.dropWhile p = [] ↔ l.all p = true := by
  induction l with
  | nil => simp
  | cons a l ih => simp only [List.dropWhile_cons, List.all_cons]; split <;> simp_all
theorem trimS_nil_iff (l cs : List UInt8) : Lib.trimS l cs = [] ↔ l.all (cs.contains ·) = true := by
  unfold Lib.trimS Lib.trimLeftS
  rw [dropWhile_nil]
  constructor
  · intro h
    unfold Lib.trimRightS at h
    rw [List.all_reverse] at h
    have key : ∀ m : List UInt8, (m.dropWhile (cs.contains ·)).all (cs.contains ·) = true → m.all (cs.contains ·) = true := by
      intro m
      induction m with
      | nil => simp
      | cons a m ih =>
        intro h
        simp only [List.dropWhile_cons] at h
        split at h
        · rename_i ha
          rw [List.all_cons, ha, ih h]
          rfl
        · exact h
    have := key l.reverse h
    rwa [List.all_reverse] at this
  · intro h
    unfold Lib.trimRightS
    rw [(dropWhile_nil _ _).2 (by rw [List.all_reverse]; exact h)]
    rfl

theorem trim_any (s cs : Str) (w : World) (hs : s.length ≤ 9223372036854775807) (hcs : cs.length < 4294967281) (ha : cs.all (fun b => decide (b.toNat < 128)) = true) :
    Calls Tryd.prog 100 #[sv s, sv cs] w fun e w' => e = .returned (sv (Lib.trimS s cs)) ∧ Ext w w' :=
  Any.strings_Trim_laid Tryd.lays160 (by kernel_rfl) ⟨s.toArray⟩ ⟨cs.toArray⟩ w (by show s.toArray.size ≤ _; simp; omega) (by show cs.toArray.size < _; simpa using hcs) (ascii_of_all (by simpa using ha))

def nameSet : Str := [97, 98, 99, 100, 101, 102, 103, 104, 105, 106, 107, 108, 109, 110, 111, 112, 113, 114, 115, 116, 117, 118, 119, 120, 121, 122, 48, 49, 50, 51, 52, 53, 54, 55, 56, 57, 45]
theorem nameSet_contains (c : UInt8) : nameSet.contains c = nameByte c := by
  have : ∀ n : Fin 256, nameSet.contains (UInt8.ofNat n.val) = nameByte (UInt8.ofNat n.val) := by decide +kernel
  have h := this ⟨c.toNat, c.toNat_lt⟩
  simpa using h

set_option maxHeartbeats 1000000 in
set_option maxRecDepth 100000 in
theorem isName_any (s : Str) (w : World) (hs : Str.Ok s) :
    Calls Tryd.prog 53 #[sv s] w fun e w' => e = .returned (.bool (isNameB s)) ∧ Ext w w' := by
  rcases s with _ | ⟨c, s⟩
  · go_enter Tryd.func53, Tryd.ntmps53
    go_wp2
    go_ret
    exact ⟨rfl, Ext.refl _⟩
  · go_enter Tryd.func53, Tryd.ntmps53
    have HT : Hid (Lib.trimS (c :: s) nameSet = [] ↔ (c :: s).all nameByte = true) := by
      have h1 := trimS_nil_iff (c :: s) nameSet
      have h2 : (c :: s).all (nameSet.contains ·) = (c :: s).all nameByte := by
        congr 1
        exact funext nameSet_contains
      rw [h2] at h1
      exact h1
    have HS : Hid (isNameB (c :: s) = (decide (s.length < 40) && nameHead c && (c :: s).all nameByte)) := rfl
    have HC := trim_any (c :: s) nameSet
    generalize Lib.trimS (c :: s) nameSet = r at *
    have HC' := Lib.hid HC
    clear HC
    go_wp2_with (go_at_call 100; refine (HC'.out _ hs (by decide) (by decide)).mono ?_; rintro e w' ⟨rfl, hx⟩)
    all_goals
      go_ret
      first
        | exact ⟨ret_bool (by rw [HS.out]; simp [nameHead]; omega), Ext.refl _⟩
        | exact ⟨ret_bool (by rw [HS.out, Bool.eq_iff_iff, List.isEmpty_iff, HT.out]; simp [nameHead]; omega), hx⟩

theorem isNameB_at (s : Str) (h : 0 < s.length) : isNameB s = (decide (s.length ≤ 40) && (decide (97 ≤ (s[0]).toNat) && decide ((s[0]).toNat ≤ 122)) && s.all nameByte) := by
  cases s with
  | nil => simp at h
  | cons c t => simp only [isNameB, nameHead, List.length_cons, List.getElem_cons_zero]; congr 2
theorem nameByte_eq (b : UInt8) : nameByte b = ((decide (97 ≤ b.toNat) && decide (b.toNat ≤ 122)) || (decide (48 ≤ b.toNat) && decide (b.toNat ≤ 57)) || decide (b.toNat = 45)) := rfl
theorem all_snoc {α : Type} (p : α → Bool) (l : List α) (k : Nat) (h : k < l.length) : (l.take (k + 1)).all p = ((l.take k).all p && p l[k]) := by
  rw [List.take_succ_eq_append_getElem h, List.all_append]; simp
set_option maxHeartbeats 1000000 in
set_option maxRecDepth 100000 in
theorem isName1_eq (s : Str) (w : World) (hs : Str.Ok s) :
    Calls Tryd.prog 101 #[sv s] w fun e w' => e = .returned (.bool (isNameB s)) ∧ w = w' := by
  unfold Str.Ok at hs
  by_cases h0 : 0 < s.length
  · have HS := Lib.hid (isNameB_at s h0)
    have hne : Hid (s ≠ []) := fun e => by subst e; simp at h0
    have hsn : s.isEmpty = false := by cases s with | nil => simp at h0 | cons c t => rfl
    by_cases hbad : s.length ≤ 40 ∧ 97 ≤ (s[0]).toNat ∧ (s[0]).toNat ≤ 122
    · obtain ⟨g1, g2, g3⟩ := hbad
      have HS2 : Hid (isNameB s = s.all nameByte) := by
        show isNameB s = s.all nameByte
        rw [HS.out]; simp [g1, g2, g3]
      clear HS
      go_enter Tryd.func101, Tryd.ntmps101
      go_wp2
      go_loop [24] (fun i => ∃ k : Nat, k ≤ s.length ∧ i = .int .i64 k ∧ Hid ((s.take k).all nameByte = true)) (fun i => s.length - (intOf i).toNat)
      case atStart => exact ⟨0, by omega, rfl, rfl⟩
      case round =>
        obtain ⟨k, hk, rfl, hz⟩ := hrel
        by_cases hlt : k < s.length
        · have Ht := Lib.hid (all_snoc nameByte s k hlt)
          have Hm : Hid (s[k] ∈ s) := List.getElem_mem _
          have Hb := Lib.hid (nameByte_eq s[k])
          go_wp2
          all_goals ((try simp only [bne_iff_ne] at *); (try simp only [ne_eq] at *); (try simp only [bne_eq_false_iff_eq] at *); (try simp only [beq_iff_eq] at *); (try simp only [beq_eq_false_iff_ne] at *))
          all_goals first
            | (go_ret
               exact ⟨ret_bool (by
                 rw [HS2.out]
                 symm
                 rw [Bool.eq_false_iff]
                 intro hall
                 have h1 := List.all_eq_true.1 hall s[k] Hm.out
                 rw [Hb.out] at h1
                 simp only [Bool.or_eq_true, Bool.and_eq_true, decide_eq_true_eq] at h1
                 omega), rfl⟩)
            | (go_round
               case rel => exact ⟨k + 1, by omega, by go_num, by
                 show (s.take (k + 1)).all nameByte = true
                 rw [Ht.out, hz.out, Hb.out]
                 simp only [Bool.true_and, Bool.or_eq_true, Bool.and_eq_true, decide_eq_true_eq]
                 omega⟩
               case measure => simp [intOf]; omega)
        · go_wp2
          go_ret
          exact ⟨ret_bool (by
            rw [HS2.out]
            have := hz.out
            rw [List.take_of_length_le (by omega)] at this
            exact this.symm), rfl⟩
    · have HS2 : Hid (isNameB s = false) := by
        show isNameB s = false
        rw [HS.out]
        simp only [Bool.and_eq_false_iff, decide_eq_false_iff_not]
        by_cases e1 : s.length ≤ 40
        · by_cases e2 : 97 ≤ (s[0]).toNat
          · exact .inl (.inr (.inr (fun e3 => hbad ⟨e1, e2, e3⟩)))
          · exact .inl (.inr (.inl e2))
        · exact .inl (.inl e1)
      go_enter Tryd.func101, Tryd.ntmps101
      go_wp2_with fail
      all_goals first
        | (go_ret; exact ⟨by rw [HS2.out]; rfl, rfl⟩)
        | (exfalso; omega)
  · have : s = [] := List.eq_nil_of_length_eq_zero (by omega)
    subst this
    go_enter Tryd.func101, Tryd.ntmps101
    go_wp2
    go_ret
    exact ⟨rfl, rfl⟩
theorem isName18_any (s : Str) (w : World) (hs : Str.Ok s) :
    Calls Tryd.prog 54 #[sv s] w fun e w' => e = .returned (.bool (isNameB s)) ∧ Ext w w' := by
  go_enter Tryd.func54, Tryd.ntmps54
  repeat' (
      first
        | ((with_reducible apply wp_seq_k); intro K hK)
        | (simp only [Exit.then, Exit.inBlock, ↓reduceIte, Nat.reduceEqDiff])
        | with_reducible apply wp_block
        | with_reducible apply wp_skip
        | with_reducible apply wp_exit
        | ((with_reducible apply wp_cond_true); (focus exact rfl))
        | ((with_reducible apply wp_cond_false); (focus exact rfl))
        | (((with_reducible apply wp_cond_split); (focus exact rfl)) <;> intro hb <;> (try simp only [bne_iff_ne, ne_eq, bne_eq_false_iff_eq, beq_iff_eq, beq_eq_false_iff_ne, decide_eq_true_eq, decide_eq_false_iff_not, Bool.not_eq_true', Bool.not_eq_false', Bool.and_eq_true, Bool.or_eq_true, Bool.and_eq_false_iff, Bool.or_eq_false_iff, Int.not_lt, Int.not_le, Bool.not_eq_true, Bool.not_eq_false] at hb) <;> (try (have hbl := And.left hb; have hbr := And.right hb)) <;> (try (have hbll := And.left hbl; have hblr := And.right hbl)) <;> (try first | contradiction | exact (bff hb (by assumption)).elim | exact (bft hb (by assumption)).elim | (exfalso; omega)))
        | ((with_reducible apply (wp_region_lit (id := 0)))
           ((with_reducible apply l_assign); (focus (first | (simp only [EE]; done) | (simp only [EE]; exact rfl) | exact rfl)); (try simp only [SS, Nat.reduceAdd]))
           (with_reducible apply wpList_nil))
        | ((with_reducible apply (wp_region_lit (id := 1)))
           ((with_reducible apply l_move); (focus (first | (simp only [EE]; done) | (simp only [EE]; exact rfl) | exact rfl)); (try simp only [SS, Nat.reduceAdd]))
           ((with_reducible apply l_enter); (focus (first | (simp only [EE]; done) | (simp only [EE]; exact rfl) | exact rfl)); first | ((with_reducible refine (isName1_eq _ _ ?_).mono ?_); (focus (first | assumption | exact rfl | omega | ((apply SlR.ext); (focus assumption); (focus (repeat (first | exact xr _ | assumption | (apply xt; assumption)))); done) | ((apply Own.ext); (focus assumption); (focus (repeat (first | exact xr _ | assumption | (apply xt; assumption)))); done) | (simp; done))); rintro e w4 ⟨rfl, rfl⟩; (try simp only []); (try simp only [SS, Nat.reduceAdd])))
           ((with_reducible apply l_assign); (focus (first | (simp only [EE]; done) | (simp only [EE]; exact rfl) | exact rfl)); (try simp only [SS, Nat.reduceAdd]))
           (with_reducible apply wpList_nil))
        | ((fail_if_success (with_reducible apply no_region)); (fail_if_success (with_reducible apply no_list)); (fail_if_success (with_reducible apply no_oper)); (fail_if_success (with_reducible apply no_par)); (fail_if_success (with_reducible apply no_loop)); go_step))
  all_goals
    go_ret
    refine ⟨ret_bool ?_, (by (focus (repeat (first | exact xr _ | assumption | (apply xt; assumption)))))⟩
    simp
theorem isAny_any (s : Str) (w : World) (hs : Str.Ok s) : Calls Tryd.prog 94 #[sv s] w fun e w' => e = .returned (.bool (isAnyB s)) ∧ Ext w w' := by
  go_enter Tryd.func94, Tryd.ntmps94
  repeat' (
      first
        | ((with_reducible apply wp_seq_k); intro K hK)
        | (simp only [Exit.then, Exit.inBlock, ↓reduceIte, Nat.reduceEqDiff])
        | with_reducible apply wp_block
        | with_reducible apply wp_skip
        | with_reducible apply wp_exit
        | ((with_reducible apply wp_cond_true); (focus exact rfl))
        | ((with_reducible apply wp_cond_false); (focus exact rfl))
        | (((with_reducible apply wp_cond_split); (focus exact rfl)) <;> intro hb <;> (try simp only [bne_iff_ne, ne_eq, bne_eq_false_iff_eq, beq_iff_eq, beq_eq_false_iff_ne, decide_eq_true_eq, decide_eq_false_iff_not, Bool.not_eq_true', Bool.not_eq_false', Bool.and_eq_true, Bool.or_eq_true, Bool.and_eq_false_iff, Bool.or_eq_false_iff, Int.not_lt, Int.not_le, Bool.not_eq_true, Bool.not_eq_false] at hb) <;> (try (have hbl := And.left hb; have hbr := And.right hb)) <;> (try (have hbll := And.left hbl; have hblr := And.right hbl)) <;> (try first | contradiction | exact (bff hb (by assumption)).elim | exact (bft hb (by assumption)).elim | (exfalso; omega)))
        | ((with_reducible apply (wp_region_lit (id := 0)))
           ((with_reducible apply l_assign); (focus (first | (simp only [EE]; done) | (simp only [EE]; exact rfl) | exact rfl)); (try simp only [SS, Nat.reduceAdd]))
           (with_reducible apply wpList_nil))
        | ((with_reducible apply (wp_region_seq (id := 1)))
           ((with_reducible apply p_move); (focus (first | (simp only [EE]; done) | (simp only [EE]; exact rfl) | exact rfl)); (try simp only [SS, Nat.reduceAdd]))
           ((with_reducible apply p_seql); (focus exact rfl); (focus exact rfl); (try simp only [SS, Nat.reduceAdd]))
           ((with_reducible apply p_move); (focus (first | (simp only [EE]; done) | (simp only [EE]; exact rfl) | exact rfl)); (try simp only [SS, Nat.reduceAdd]))
           ((with_reducible apply par_cf); (focus exact rfl); (focus exact rfl); (focus (intro hg1 w1 hx K hK; have hq1 := hg1; (try simp only [decide_eq_true_eq, decide_eq_false_iff_not, Int.not_lt, Int.not_le] at hq1); (try simp only [hg1, GS2] at hK ⊢); ((with_reducible apply r_move); (focus (first | (simp only [EE]; done) | (simp only [EE]; exact rfl) | exact rfl)); exact hK _ (Ext.refl _)))); (try simp only [SS, Nat.reduceAdd]))
           ((with_reducible apply par_cf); (focus exact rfl); (focus exact rfl); (focus (intro hg1 w1 hx K hK; have hq1 := hg1; (try simp only [decide_eq_true_eq, decide_eq_false_iff_not, Int.not_lt, Int.not_le] at hq1); (try simp only [hg1, GS2] at hK ⊢); ((with_reducible apply r_enter); (focus (first | (simp only [EE]; done) | (simp only [EE]; exact rfl) | exact rfl)); first | ((with_reducible refine (isName_any _ _ ?_).mono ?_); (focus (first | assumption | exact rfl | omega | ((apply SlR.ext); (focus assumption); (focus (repeat (first | exact xr _ | assumption | (apply xt; assumption)))); done) | ((apply Own.ext); (focus assumption); (focus (repeat (first | exact xr _ | assumption | (apply xt; assumption)))); done) | (simp; done))); rintro e w7 ⟨rfl, hx7⟩; exact hK _ hx7)))); (try simp only [SS, Nat.reduceAdd]))
           ((with_reducible apply p_or); (focus exact rfl); (focus exact rfl); (try simp only [SS, Nat.reduceAdd]))
           ((with_reducible apply p_assign); (focus (first | (simp only [EE]; done) | (simp only [EE]; exact rfl) | exact rfl)); (try simp only [SS, Nat.reduceAdd]))
           ((with_reducible apply par_nil); intro v1 hv1 _))
        | ((fail_if_success (with_reducible apply no_region)); (fail_if_success (with_reducible apply no_list)); (fail_if_success (with_reducible apply no_oper)); (fail_if_success (with_reducible apply no_par)); (fail_if_success (with_reducible apply no_loop)); go_step))
  all_goals
    go_ret
    refine ⟨ret_bool ?_, (by (focus (repeat (first | exact xr _ | assumption | (apply xt; assumption)))))⟩
    cases s <;> simp [isAnyB]
theorem isAny8_any (s : Str) (w : World) (hs : Str.Ok s) : Calls Tryd.prog 104 #[sv s] w fun e w' => e = .returned (.bool (isAnyB s)) ∧ Ext w w' := by
  go_enter Tryd.func104, Tryd.ntmps104
  repeat' (
      first
        | ((with_reducible apply wp_seq_k); intro K hK)
        | (simp only [Exit.then, Exit.inBlock, ↓reduceIte, Nat.reduceEqDiff])
        | with_reducible apply wp_block
        | with_reducible apply wp_skip
        | with_reducible apply wp_exit
        | ((with_reducible apply wp_cond_true); (focus exact rfl))
        | ((with_reducible apply wp_cond_false); (focus exact rfl))
        | (((with_reducible apply wp_cond_split); (focus exact rfl)) <;> intro hb <;> (try simp only [bne_iff_ne, ne_eq, bne_eq_false_iff_eq, beq_iff_eq, beq_eq_false_iff_ne, decide_eq_true_eq, decide_eq_false_iff_not, Bool.not_eq_true', Bool.not_eq_false', Bool.and_eq_true, Bool.or_eq_true, Bool.and_eq_false_iff, Bool.or_eq_false_iff, Int.not_lt, Int.not_le, Bool.not_eq_true, Bool.not_eq_false] at hb) <;> (try (have hbl := And.left hb; have hbr := And.right hb)) <;> (try (have hbll := And.left hbl; have hblr := And.right hbl)) <;> (try first | contradiction | exact (bff hb (by assumption)).elim | exact (bft hb (by assumption)).elim | (exfalso; omega)))
        | ((with_reducible apply (wp_region_lit (id := 0)))
           ((with_reducible apply l_assign); (focus (first | (simp only [EE]; done) | (simp only [EE]; exact rfl) | exact rfl)); (try simp only [SS, Nat.reduceAdd]))
           (with_reducible apply wpList_nil))
        | ((with_reducible apply (wp_region_seq (id := 1)))
           ((with_reducible apply p_move); (focus (first | (simp only [EE]; done) | (simp only [EE]; exact rfl) | exact rfl)); (try simp only [SS, Nat.reduceAdd]))
           ((with_reducible apply p_seql); (focus exact rfl); (focus exact rfl); (try simp only [SS, Nat.reduceAdd]))
           ((with_reducible apply p_move); (focus (first | (simp only [EE]; done) | (simp only [EE]; exact rfl) | exact rfl)); (try simp only [SS, Nat.reduceAdd]))
           ((with_reducible apply par_cf); (focus exact rfl); (focus exact rfl); (focus (intro hg1 w1 hx K hK; have hq1 := hg1; (try simp only [decide_eq_true_eq, decide_eq_false_iff_not, Int.not_lt, Int.not_le] at hq1); (try simp only [hg1, GS2] at hK ⊢); ((with_reducible apply r_move); (focus (first | (simp only [EE]; done) | (simp only [EE]; exact rfl) | exact rfl)); exact hK _ (Ext.refl _)))); (try simp only [SS, Nat.reduceAdd]))
           ((with_reducible apply par_cf); (focus exact rfl); (focus exact rfl); (focus (intro hg1 w1 hx K hK; have hq1 := hg1; (try simp only [decide_eq_true_eq, decide_eq_false_iff_not, Int.not_lt, Int.not_le] at hq1); (try simp only [hg1, GS2] at hK ⊢); ((with_reducible apply r_enter); (focus (first | (simp only [EE]; done) | (simp only [EE]; exact rfl) | exact rfl)); first | ((with_reducible refine (isName18_any _ _ ?_).mono ?_); (focus (first | assumption | exact rfl | omega | ((apply SlR.ext); (focus assumption); (focus (repeat (first | exact xr _ | assumption | (apply xt; assumption)))); done) | ((apply Own.ext); (focus assumption); (focus (repeat (first | exact xr _ | assumption | (apply xt; assumption)))); done) | (simp; done))); rintro e w7 ⟨rfl, hx7⟩; exact hK _ hx7)))); (try simp only [SS, Nat.reduceAdd]))
           ((with_reducible apply p_or); (focus exact rfl); (focus exact rfl); (try simp only [SS, Nat.reduceAdd]))
           ((with_reducible apply p_assign); (focus (first | (simp only [EE]; done) | (simp only [EE]; exact rfl) | exact rfl)); (try simp only [SS, Nat.reduceAdd]))
           ((with_reducible apply par_nil); intro v1 hv1 _))
        | ((fail_if_success (with_reducible apply no_region)); (fail_if_success (with_reducible apply no_list)); (fail_if_success (with_reducible apply no_oper)); (fail_if_success (with_reducible apply no_par)); (fail_if_success (with_reducible apply no_loop)); go_step))
  all_goals
    go_ret
    refine ⟨ret_bool ?_, (by (focus (repeat (first | exact xr _ | assumption | (apply xt; assumption)))))⟩
    cases s <;> simp [isAnyB]
end Go.Proofs.YtdopillligfdiaaDoor
