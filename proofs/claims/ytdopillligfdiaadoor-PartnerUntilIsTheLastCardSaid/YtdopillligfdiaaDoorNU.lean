/- Days on which what applies may change: the plain law. -/
import Derived.Test.YtdopillligfdiaaDoorMT
import Derived.Test.YtdopillligfdiaaDoorNP
namespace Go.Proofs.YtdopillligfdiaaDoor
set_option linter.unusedSimpArgs false
set_option linter.unusedVariables false
open Go.RowKit

theorem compactUpTo_lt (d : Array Int) (hd : ∀ i j, i ≤ j → j < d.size → d[i]! ≤ d[j]!) : ∀ m, m ≤ d.size → (Lib.compactUpTo d m).Pairwise (· < ·) ∧ (∀ x ∈ Lib.compactUpTo d m, x ≤ d[m - 1]!)
  | 0, _ => by simp [Lib.compactUpTo]
  | m + 1, h => by
    obtain ⟨h1, h2⟩ := compactUpTo_lt d hd m (by omega)
    have hle : ∀ x ∈ Lib.compactUpTo d m, x ≤ d[m]! := fun x hx => Int.le_trans (h2 x hx) (hd _ _ (by omega) (by omega))
    rw [Lib.compactUpTo_succ]
    simp only [Nat.add_sub_cancel]
    by_cases hk : Lib.keeps d m = true
    · rw [if_pos hk]
      refine ⟨List.pairwise_append.2 ⟨h1, by simp, fun x hx y hy => ?_⟩, fun x hx => ?_⟩
      · simp only [List.mem_singleton] at hy
        subst hy
        have h3 := h2 x hx
        have h4 := hd (m - 1) m (by omega) (by omega)
        rcases Nat.eq_zero_or_pos m with h0 | h0
        · subst h0; simp [Lib.compactUpTo] at hx
        · simp only [Lib.keeps, decide_eq_true_eq] at hk
          have : d[m]! ≠ d[m - 1]! := by rcases hk with hk | hk; omega; exact hk
          omega
      · rcases List.mem_append.1 hx with hx | hx
        · exact hle x hx
        · simp only [List.mem_singleton] at hx; omega
    · rw [if_neg hk, List.append_nil]
      exact ⟨h1, hle⟩
theorem sortI_le (l : List Int) : (sortI l).Pairwise (· ≤ ·) := by
  have := List.pairwise_mergeSort (le := fun x y : Int => decide (x ≤ y)) (fun a b c h1 h2 => by simp at *; omega) (fun a b => by simp; omega) l
  exact this.imp (by simp)
theorem compact_lt (l : List Int) (h : l.Pairwise (· ≤ ·)) : (Lib.compact l).Pairwise (· < ·) := by
  refine (compactUpTo_lt l.toArray (fun i j hij hj => ?_) l.length (by simp)).1
  simp only [List.size_toArray] at hj
  rcases Nat.lt_or_ge i j with hlt | hge
  · have := List.pairwise_iff_getElem.1 h i j (by omega) hj hlt
    simpa [getElem!_pos, show i < l.length by omega, hj] using this
  · have : i = j := by omega
    subst this; exact Int.le_refl _
theorem compact_mem (l : List Int) (x : Int) (h : x ∈ Lib.compact l) : x ∈ l := by
  unfold Lib.compact Lib.compactUpTo at h
  obtain ⟨j, hj, rfl⟩ := List.mem_map.1 h
  have hj' : j < l.length := by have := (List.mem_filter.1 hj).1; simpa using this
  simp [getElem!_pos, hj']
theorem sortI_mem (l : List Int) (x : Int) : x ∈ sortI l ↔ x ∈ l := List.mem_mergeSort
theorem compact_len (l : List Int) : (Lib.compact (sortI l)).length ≤ l.length := by
  have := Lib.compact_length_le (sortI l)
  rwa [show (sortI l).length = l.length from List.length_mergeSort l] at this
theorem mem_compactUpTo (d : Array Int) : ∀ m, ∀ j, j < m → d[j]! ∈ Lib.compactUpTo d m
  | 0, j, h => by omega
  | m + 1, j, h => by
    rw [Lib.compactUpTo_succ]
    by_cases hk : Lib.keeps d m = true
    · rw [if_pos hk]
      rcases Nat.lt_or_ge j m with hj | hj
      · exact List.mem_append.2 (.inl (mem_compactUpTo d m j hj))
      · have : j = m := by omega
        subst this; simp
    · rw [if_neg hk, List.append_nil]
      rcases Nat.lt_or_ge j m with hj | hj
      · exact mem_compactUpTo d m j hj
      · have : j = m := by omega
        subst this
        simp only [Lib.keeps, decide_eq_true_eq, not_or, Decidable.not_not] at hk
        obtain ⟨h1, h2⟩ := hk
        rw [h2]
        exact mem_compactUpTo d j (j - 1) (by omega)
theorem mem_compact (l : List Int) (x : Int) (h : x ∈ l) : x ∈ Lib.compact l := by
  obtain ⟨j, hj, rfl⟩ := List.getElem_of_mem h
  have := mem_compactUpTo l.toArray l.length j hj
  simpa [Lib.compact, getElem!_pos, hj] using this
theorem distinct_mem (l : List Int) (x : Int) : x ∈ Lib.compact (sortI l) ↔ x ∈ l :=
  ⟨fun h => (sortI_mem l x).1 (compact_mem _ _ h), fun h => mem_compact _ _ ((sortI_mem l x).2 h)⟩
theorem mem_cons_pw {x : Int} {l : List Int} (h : (x :: l).Pairwise (· < ·)) : ∀ y ∈ l, x < y := (List.pairwise_cons.1 h).1
def pts (fr : Int) (a : Agr) : List Int := [a.first, a.last + 1].filter fun d => decide (fr < d) && decide (d ≤ 3652059)
def rawL (l : List Agr) (fr : Int) : List Int := fr :: l.flatMap (pts fr)
def changeL (l : List Agr) (fr : Int) : List Int := Lib.compact (sortI (rawL l fr))
theorem rawL_mem {l : List Agr} {fr x : Int} : x ∈ rawL l fr ↔ x = fr ∨ ∃ a ∈ l, (x = a.first ∨ x = a.last + 1) ∧ fr < x ∧ x ≤ 3652059 := by
  simp only [rawL, List.mem_cons, List.mem_flatMap, pts, List.mem_filter, List.not_mem_nil, or_false, Bool.and_eq_true, decide_eq_true_eq]
theorem changeL_cons (l : List Agr) (fr : Int) : ∃ r, changeL l fr = fr :: r ∧ (fr :: r).Pairwise (· < ·) ∧ ∀ x, x ∈ r ↔ x ∈ rawL l fr ∧ fr < x := by
  have hlt : (changeL l fr).Pairwise (· < ·) := compact_lt _ (sortI_le _)
  have hm : ∀ x, x ∈ changeL l fr ↔ x ∈ rawL l fr := distinct_mem _
  have hge : ∀ x ∈ rawL l fr, fr ≤ x := fun x hx => by
    rcases rawL_mem.1 hx with rfl | ⟨a, _, _, h, _⟩ <;> omega
  have hfr : fr ∈ changeL l fr := (hm fr).2 (rawL_mem.2 (.inl rfl))
  cases hc : changeL l fr with
  | nil => rw [hc] at hfr; cases hfr
  | cons y r =>
    rw [hc] at hlt hm hfr
    have hyr := mem_cons_pw hlt
    have hy : y = fr := by
      have h1 := hge y ((hm y).1 (by simp))
      rcases List.mem_cons.1 hfr with h | h
      · exact h.symm
      · have := hyr fr h; omega
    subst hy
    refine ⟨r, rfl, hlt, fun x => ⟨fun h => ⟨(hm x).1 (by simp [h]), hyr x h⟩, fun ⟨h1, h2⟩ => ?_⟩⟩
    rcases List.mem_cons.1 ((hm x).2 h1) with rfl | h
    · omega
    · exact h
theorem applies_on (a : Agr) (c : Cas) (d e : Int) (hde : d ≤ e) (h1 : ¬ (d < a.first ∧ a.first ≤ e)) (h2 : ¬ (d < a.last + 1 ∧ a.last + 1 ≤ e)) : appliesB a (c.on d) = appliesB a (c.on e) := by
  have ha : alikeB a (c.on d) = alikeB a (c.on e) := rfl
  have ho : outB d a.first a.last = outB e a.first a.last := by
    unfold outB
    by_cases g1 : d < a.first
    · have : e < a.first := by omega
      simp [g1, this]
    · have : ¬ e < a.first := by omega
      by_cases g2 : a.last < d
      · have : a.last < e := by omega
        simp [g2, this]
      · have : ¬ a.last < e := by omega
        simp [g1, g2, *]
  unfold appliesB
  rw [ha]
  show (alikeB a (c.on e) && !outB d a.first a.last) = (alikeB a (c.on e) && !outB e a.first a.last)
  rw [ho]
theorem findAt_congr {l : List Agr} {c c' : Cas} (h : ∀ a ∈ l, appliesB a c = appliesB a c') : ∀ k, findAt l c k = findAt l c' k
  | 0 => rfl
  | k + 1 => by
    simp only [findAt, findAt_congr h k]
    cases hk : l[k]? with
    | none => rfl
    | some a => simp only [h a (List.mem_of_getElem? hk)]
theorem find_on {l : List Agr} {c : Cas} {d e : Int} (hfr : c.day ≤ d) (hde : d ≤ e) (he : e ≤ 3652059) (hn : ∀ x ∈ rawL l c.day, d < x → ¬ x ≤ e) : findN l (c.on d) = findN l (c.on e) := by
  refine findAt_congr (fun a ha => applies_on a c d e hde (fun h => ?_) fun h => ?_) _
  · exact hn a.first (rawL_mem.2 (.inr ⟨a, ha, .inl rfl, by omega, by omega⟩)) h.1 h.2
  · exact hn (a.last + 1) (rawL_mem.2 (.inr ⟨a, ha, .inr rfl, by omega, by omega⟩)) h.1 h.2
/-- Up to the day before the first point at which another one is found. -/
def untilD (l : List Agr) (c : Cas) (f : Int) : List Int → Int
  | [] => 3652059
  | d :: r => if findN l (c.on d) ≠ f then d - 1 else untilD l c f r
structure UntilOk (l : List Agr) (c : Cas) (f cur E : Int) : Prop where
  ge : cur ≤ E
  le : E ≤ 3652059
  same : ∀ d, c.day ≤ d → d ≤ E → findN l (c.on d) = f
  next : E ≠ 3652059 → findN l (c.on (E + 1)) ≠ f
theorem until_ok {l : List Agr} {c : Cas} {f : Int} : ∀ (r : List Int) (cur : Int), (cur :: r).Pairwise (· < ·) → (∀ x ∈ rawL l c.day, cur < x → x ∈ r) → (∀ x ∈ r, x ≤ 3652059) → c.day ≤ cur → cur ≤ 3652059 → (∀ d, c.day ≤ d → d ≤ cur → findN l (c.on d) = f) → UntilOk l c f cur (untilD l c f r)
  | [], cur, _, hraw, _, h1, h2, hs => ⟨h2, Int.le_refl _, fun d hd hd2 => by
      have hd2 : d ≤ 3652059 := hd2
      by_cases hdc : d ≤ cur
      · exact hs d hd hdc
      · rw [← hs cur h1 (Int.le_refl _)]
        exact (find_on h1 (by omega) hd2 fun x hx hlt _ => by have := hraw x hx hlt; cases this).symm, fun h => absurd rfl h⟩
  | x :: r, cur, hp, hraw, hm, h1, h2, hs => by
    have hcx : cur < x := mem_cons_pw hp x (by simp)
    have hxm := hm x (by simp)
    have hxr := mem_cons_pw (List.pairwise_cons.1 hp).2
    have hbe : ∀ d, c.day ≤ d → d < x → findN l (c.on d) = f := fun d hd hdx => by
      by_cases hdc : d ≤ cur
      · exact hs d hd hdc
      · rw [← hs cur h1 (Int.le_refl _)]
        refine (find_on h1 (by omega) (by omega) fun y hy hlt hle => ?_).symm
        rcases List.mem_cons.1 (hraw y hy hlt) with rfl | h
        · omega
        · have := hxr y h; omega
    unfold untilD
    by_cases hx : findN l (c.on x) ≠ f
    · rw [if_pos hx]
      exact ⟨by omega, by omega, fun d hd hd2 => hbe d hd (by omega), fun _ => by rw [show x - 1 + 1 = x by omega]; exact hx⟩
    · rw [if_neg hx]
      have ih := until_ok r x (List.pairwise_cons.1 hp).2 (fun y hy hlt => by
        rcases List.mem_cons.1 (hraw y hy (by omega)) with rfl | h
        · omega
        · exact h) (fun y hy => hm y (by simp [hy])) (by omega) hxm (fun d hd hd2 => by
        by_cases hdx : d = x
        · subst hdx; exact Classical.not_not.1 hx
        · exact hbe d hd (by omega))
      exact ⟨by have := ih.ge; omega, ih.le, ih.same, ih.next⟩
def UntilN (p : List Par) (l : List Agr) (c : Cas) : Int × Int := if askedN p l c ≠ 0 then (0, askedN p l c) else if findN l c < 0 then (0, 0) else (untilD l c (findN l c) (changeL l c.day).tail, 0)
theorem case_day {c : Cas} (h : caseFaultN c = 0) : 1 ≤ c.day ∧ c.day ≤ 3652059 := by
  unfold caseFaultN restFaultN at h
  split at h
  · cases h
  · split at h
    · cases h
    · split at h
      · cases h
      · rename_i h3
        simp only [outB, Bool.or_eq_true, decide_eq_true_eq, not_or] at h3
        omega
theorem case_on {c : Cas} {d : Int} (h : caseFaultN c = 0) (h1 : 1 ≤ d) (h2 : d ≤ 3652059) : caseFaultN (c.on d) = 0 := by
  unfold caseFaultN restFaultN at h ⊢
  split at h
  · cases h
  · rename_i g1
    split at h
    · cases h
    · rename_i g2
      have e1 : ¬ (!isNameB (c.on d).fr || !isNameB (c.on d).tgt) = true := g1
      have e2 : ¬ (!isNameB (c.on d).msg || !isNameB (c.on d).ver) = true := g2
      have e3 : ¬ outB (c.on d).day 1 3652059 = true := by
        show ¬ outB d 1 3652059 = true
        simp only [outB, Bool.or_eq_true, decide_eq_true_eq, not_or]
        omega
      rw [if_neg e1, if_neg e2, if_neg e3]
theorem asked_on {p : List Par} {l : List Agr} {c : Cas} {d : Int} (h : askedN p l c = 0) (h1 : 1 ≤ d) (h2 : d ≤ 3652059) : askedN p l (c.on d) = 0 := by
  obtain ⟨g1, g2⟩ := askedN_ok h
  have g3 := case_on g2 h1 h2
  unfold askedN at h ⊢
  rw [if_neg (by simpa using g1), if_neg (by simpa using g2)] at h
  rw [if_neg (by simpa using g1), if_neg (by simpa using g3)]
  exact h
theorem on_day (c : Cas) : c.on c.day = c := rfl
/-- What stands behind law 12. -/
theorem law12_plain {p : List Par} {l : List Agr} {c : Cas} (h : askedN p l c = 0) (hf : 0 ≤ findN l c) : UntilOk l c (findN l c) c.day (UntilN p l c).1 ∧ (UntilN p l c).2 = 0 := by
  have hd := case_day (askedN_ok h).2
  obtain ⟨r, h1, h2, h3⟩ := changeL_cons l c.day
  have he : UntilN p l c = (untilD l c (findN l c) r, 0) := by
    unfold UntilN
    rw [if_neg (by simpa using h), if_neg (by omega), h1]
    rfl
  rw [he]
  refine ⟨until_ok r c.day h2 (fun x hx hlt => (h3 x).2 ⟨hx, hlt⟩) (fun x hx => ?_) (Int.le_refl _) hd.2 (fun d g1 g2 => ?_), rfl⟩
  · rcases rawL_mem.1 ((h3 x).1 hx).1 with rfl | ⟨a, _, _, _, h⟩
    · exact hd.2
    · exact h
  · have : d = c.day := by omega
    rw [this, on_day]
end Go.Proofs.YtdopillligfdiaaDoor
