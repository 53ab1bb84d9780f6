/- Gaps: what the functions compute (plain). -/
import Derived.Test.YtdopillligfdiaaS2
import Derived.Test.YtdopillligfdiaaSort
namespace Go.Proofs.Ytdopillligfdiaa
set_option linter.unusedSimpArgs false
set_option linter.unusedVariables false
open Go.RowKit

/-- What is wrong with numbers: the first of them that is. -/
def farFault (s : Ser) (l0 : Int) : List Int → Int
  | [] => 0
  | n :: r => if isOfB s n = false then 1 else if sizeN s / 2 < stepsN s l0 n then 8 else farFault s l0 r
def farOk (s : Ser) (l0 n : Int) : Bool := isOfB s n && !decide (sizeN s / 2 < stepsN s l0 n)
theorem farFault_at (s : Ser) (l0 : Int) : ∀ (l : List Int) (k : Nat), (∀ j, j < k → farOk s l0 (l.getD j 0) = true) → k < l.length →
    (isOfB s (l.getD k 0) = false → farFault s l0 l = 1) ∧ (isOfB s (l.getD k 0) = true → sizeN s / 2 < stepsN s l0 (l.getD k 0) → farFault s l0 l = 8)
  | n :: r, 0, _, _ => by
    simp only [List.getD_cons_zero, farFault]
    refine ⟨fun h => by rw [if_pos h], fun h h2 => by rw [if_neg (by rw [h]; simp), if_pos h2]⟩
  | n :: r, k + 1, hk, hl => by
    have h0 := hk 0 (by omega)
    simp only [List.getD_cons_zero, farOk, Bool.and_eq_true, Bool.not_eq_true', decide_eq_false_iff_not] at h0
    have ih := farFault_at s l0 r k (fun j hj => by simpa using hk (j + 1) (by omega)) (by simpa using hl)
    simp only [List.getD_cons_succ, farFault]
    rw [if_neg (by rw [h0.1]; simp), if_neg h0.2]
    exact ih
theorem farFault_end (s : Ser) (l0 : Int) : ∀ (l : List Int), (∀ j, j < l.length → farOk s l0 (l.getD j 0) = true) → farFault s l0 l = 0
  | [], _ => rfl
  | n :: r, hk => by
    have h0 := hk 0 (by simp)
    simp only [List.getD_cons_zero, farOk, Bool.and_eq_true, Bool.not_eq_true', decide_eq_false_iff_not] at h0
    simp only [farFault]
    rw [if_neg (by rw [h0.1]; simp), if_neg h0.2]
    exact farFault_end s l0 r (fun j hj => by simpa using hk (j + 1) (by simpa using hj))
/-- The steps from the first number to each. -/
def farL (s : Ser) (l : List Int) : List Int := l.map (stepsN s (l.getD 0 0))
def glue (pr : Int → Int → List Gp) : List Int → List Gp
  | [] => []
  | [_] => []
  | x :: y :: r => pr x y ++ glue pr (y :: r)
theorem glue_snoc (pr : Int → Int → List Gp) : ∀ (xs : List Int) (x y : Int), glue pr (xs ++ [x] ++ [y]) = glue pr (xs ++ [x]) ++ pr x y
  | [], x, y => by simp [glue]
  | [a], x, y => by simp [glue]
  | a :: b :: r, x, y => by
    have ih := glue_snoc pr (b :: r) x y
    simp only [List.cons_append, glue, List.append_assoc] at ih ⊢
    rw [ih]
theorem glue_take (pr : Int → Int → List Gp) (l : List Int) (k : Nat) (h : k + 1 < l.length) : glue pr (l.take (k + 2)) = glue pr (l.take (k + 1)) ++ pr (l.getD k 0) (l.getD (k + 1) 0) := by
  have e1 : l.take (k + 1) = l.take k ++ [l.getD k 0] := by rw [List.take_succ_eq_append_getElem (by omega)]; simp [List.getD_eq_getElem?_getD, show k < l.length by omega]
  have e2 : l.take (k + 2) = l.take (k + 1) ++ [l.getD (k + 1) 0] := by rw [List.take_succ_eq_append_getElem h]; simp [List.getD_eq_getElem?_getD, h]
  rw [e2, e1, glue_snoc]
/-- What lies between two steps, as rows. -/
def pairRows (s : Ser) (b x y : Int) : List Gp := rowsL s (s.first + (b + x + 1) % sizeN s) (y - x - 1)
theorem pairRows_none (s : Ser) (b x y : Int) (h : y ≤ x + 1) : pairRows s b x y = [] := rowsL_nil _ _ _ (by omega)
/-- To leave out what is there twice changes nothing. -/
theorem glue_compactUpTo (pr : Int → Int → List Gp) (hpr : ∀ x, pr x x = []) (d : Array Int) : ∀ m, m ≤ d.size → glue pr (Lib.compactUpTo d m) = glue pr (d.toList.take m) ∧ (0 < m → ∃ xs, Lib.compactUpTo d m = xs ++ [d[m - 1]!])
  | 0, _ => by simp [Lib.compactUpTo]
  | 1, h => by
    have e : Lib.compactUpTo d 1 = [d[0]!] := by rw [Lib.compactUpTo_succ, Lib.keeps_lt_one d 0 (by omega)]; simp [Lib.compactUpTo]
    rw [e]
    refine ⟨?_, fun _ => ⟨[], by simp⟩⟩
    have : d.toList.take 1 = [d[0]!] := by
      rw [List.take_succ_eq_append_getElem (by simp; omega)]
      simp [getElem!_pos, show 0 < d.size by omega]
    rw [this]
  | m + 2, h => by
    obtain ⟨ih1, ih2⟩ := glue_compactUpTo pr hpr d (m + 1) (by omega)
    obtain ⟨xs, hxs⟩ := ih2 (by omega)
    simp only [Nat.add_sub_cancel] at hxs
    have hd1 : d[m + 1]! = d.toList.getD (m + 1) 0 := by simp [getElem!_pos, show m + 1 < d.size by omega, List.getD_eq_getElem?_getD]
    have hd0 : d[m]! = d.toList.getD m 0 := by simp [getElem!_pos, show m < d.size by omega, List.getD_eq_getElem?_getD]
    have ht := glue_take pr d.toList m (by simp; omega)
    rw [← hd1, ← hd0] at ht
    have hc := Lib.compactUpTo_succ d (m + 1)
    rw [hc, ht, ← ih1]
    by_cases he : d[m + 1]! = d[m]!
    · rw [Lib.keeps_neg (by omega) (by simpa using he)]
      simp only [Bool.false_eq_true, if_false, List.append_nil]
      rw [he, hpr, List.append_nil]
      refine ⟨rfl, fun _ => ⟨xs, ?_⟩⟩
      rw [hxs]
      have e : m + 2 - 1 = m + 1 := by omega
      rw [e, he]
    · rw [Lib.keeps_pos (by simpa using he)]
      simp only [if_true]
      refine ⟨?_, fun _ => ⟨xs ++ [d[m]!], ?_⟩⟩
      · rw [hxs, glue_snoc]
      · rw [hxs]
        have e : m + 2 - 1 = m + 1 := by omega
        rw [e]
theorem glue_compact (pr : Int → Int → List Gp) (hpr : ∀ x, pr x x = []) (l : List Int) : glue pr (Lib.compact l) = glue pr l := by
  have := (glue_compactUpTo pr hpr l.toArray l.length (by simp)).1
  simpa [Lib.compact] using this
theorem compactUpTo_lt (d : Array Int) (hd : ∀ i j, i ≤ j → j < d.size → d[i]! ≤ d[j]!) : ∀ m, m ≤ d.size → (Lib.compactUpTo d m).Pairwise (· < ·) ∧ (∀ x ∈ Lib.compactUpTo d m, x ≤ d[m - 1]!)
  | 0, _ => by simp [Lib.compactUpTo]
  | m + 1, h => by
    obtain ⟨h1, h2⟩ := compactUpTo_lt d hd m (by omega)
    have hle : ∀ x ∈ Lib.compactUpTo d m, x ≤ d[m]! := fun x hx => Int.le_trans (h2 x hx) (hd _ _ (by omega) (by omega))
    rw [Lib.compactUpTo_succ]
    simp only [Nat.add_sub_cancel]
    by_cases hk : Lib.keeps d m = true
    · rw [if_pos hk]
      refine ⟨List.pairwise_append.2 ⟨h1, by simp, fun x hx y hy => ?_⟩, fun x hx => ?_⟩
      · simp only [List.mem_singleton] at hy
        subst hy
        have h3 := h2 x hx
        have h4 := hd (m - 1) m (by omega) (by omega)
        rcases Nat.eq_zero_or_pos m with h0 | h0
        · subst h0; simp [Lib.compactUpTo] at hx
        · simp only [Lib.keeps, decide_eq_true_eq] at hk
          have : d[m]! ≠ d[m - 1]! := by rcases hk with hk | hk; omega; exact hk
          omega
      · rcases List.mem_append.1 hx with hx | hx
        · exact hle x hx
        · simp only [List.mem_singleton] at hx; omega
    · rw [if_neg hk, List.append_nil]
      exact ⟨h1, hle⟩
theorem sortI_le (l : List Int) : (sortI l).Pairwise (· ≤ ·) := by
  have := List.pairwise_mergeSort (le := fun x y : Int => decide (x ≤ y)) (fun a b c h1 h2 => by simp at *; omega) (fun a b => by simp; omega) l
  exact this.imp (by simp)
theorem compact_lt (l : List Int) (h : l.Pairwise (· ≤ ·)) : (Lib.compact l).Pairwise (· < ·) := by
  refine (compactUpTo_lt l.toArray (fun i j hij hj => ?_) l.length (by simp)).1
  simp only [List.size_toArray] at hj
  rcases Nat.lt_or_ge i j with hlt | hge
  · have := List.pairwise_iff_getElem.1 h i j (by omega) hj hlt
    simpa [getElem!_pos, show i < l.length by omega, hj] using this
  · have : i = j := by omega
    subst this; exact Int.le_refl _
theorem compact_mem (l : List Int) (x : Int) (h : x ∈ Lib.compact l) : x ∈ l := by
  unfold Lib.compact Lib.compactUpTo at h
  obtain ⟨j, hj, rfl⟩ := List.mem_map.1 h
  have hj' : j < l.length := by have := (List.mem_filter.1 hj).1; simpa using this
  simp [getElem!_pos, hj']
theorem sortI_mem (l : List Int) (x : Int) : x ∈ sortI l ↔ x ∈ l := List.mem_mergeSort
theorem ints_cells {w : World} {A : Option Addr} {l : List Int} (hrow : ∀ k r, (irows l)[k]? = some r → r.length = 1 ∧ ∃ b o, A = some ⟨b, o, none⟩ ∧ RowAt w b (o + k * 1) r) (h0 : 0 < l.length) :
    ∃ b o, A = some ⟨b, o, none⟩ ∧ ∀ j, j < l.length → w.cell? ⟨b, o + j, none⟩ = some (.int .i64 (l.getD j 0)) := by
  obtain ⟨_, b, o, hA, _⟩ := hrow 0 [.int .i64 (l.getD 0 0)] (by simp [List.getD_eq_getElem?_getD, h0])
  refine ⟨b, o, hA, fun j hj => ?_⟩
  obtain ⟨_, b', o', hA', hr⟩ := hrow j [.int .i64 (l.getD j 0)] (by simp [List.getD_eq_getElem?_getD, hj])
  rw [hA] at hA'
  simp only [Option.some.injEq, Addr.mk.injEq, and_true] at hA'
  obtain ⟨rfl, rfl⟩ := hA'
  have := hr 0 _ rfl
  simpa using this
theorem glue_len (pr : Int → Int → List Gp) : ∀ (l : List Int), (∀ k, k + 1 < l.length → (pr (l.getD k 0) (l.getD (k + 1) 0)).length ≤ 2) → (glue pr l).length ≤ 2 * l.length
  | [], _ => by simp [glue]
  | [_], _ => by simp [glue]
  | x :: y :: r, h => by
    have h1 := glue_len pr (y :: r) (fun k hk => by have := h (k + 1) (by simpa using hk); simpa using this)
    have h2 := h 0 (by simp)
    simp only [List.getD_cons_zero, List.getD_cons_succ, Nat.zero_add] at h2
    simp only [glue, List.length_append, List.length_cons] at h1 ⊢
    omega
theorem getD_take (l : List Int) (n k : Nat) (h : k < n) : (l.take n).getD k 0 = l.getD k 0 := by
  simp only [List.getD_eq_getElem?_getD, List.getElem?_take, if_pos h]
def gapsFault (s : Ser) (l : List Int) : Int := if seriesFaultN s ≠ 0 then seriesFaultN s else if 1000 < l.length then 2 else farFault s (l.getD 0 0) l
def gapsL (s : Ser) (l : List Int) : List Gp := if gapsFault s l = 0 then glue (pairRows s (l.getD 0 0 - s.first)) (sortI (farL s l)) else []
theorem ret2 {u : Value} {f g : Int} (h : f = g) : Ending.returned (.tuple #[u, .int .i64 f]) = .returned (.tuple #[u, .int .i64 g]) := by rw [h]
theorem steps_half (s : Ser) (l : List Int) (hf : farFault s (l.getD 0 0) l = 0) : ∀ x ∈ farL s l, 0 ≤ x ∧ x ≤ sizeN s / 2 := by
  have key : ∀ (l0 : Int) (m : List Int), isOfB s l0 = true → farFault s l0 m = 0 → ∀ x ∈ m.map (stepsN s l0), 0 ≤ x ∧ x ≤ sizeN s / 2 := by
    intro l0 m h0
    induction m with
    | nil => intro _ x hx; simp at hx
    | cons n r ih =>
      intro h x hx
      simp only [farFault] at h
      split at h
      · cases h
      · rename_i h1
        split at h
        · cases h
        · rename_i h2
          simp only [List.map_cons, List.mem_cons] at hx
          rcases hx with rfl | hx
          · have h3 := (isOf_bd s l0).1 h0
            have h4 := (isOf_bd s n).1 (by simpa using h1)
            have h5 : sizeN s = s.last - s.first + 1 := rfl
            unfold stepsN at h2 ⊢
            split <;> split at h2 <;> omega
          · exact ih h x hx
  cases l with
  | nil => intro x hx; simp [farL] at hx
  | cons n r =>
    refine key _ _ ?_ hf
    simp only [List.getD_cons_zero, farFault] at hf ⊢
    split at hf
    · cases hf
    · rename_i h1; simpa using h1
/-- What is wanted of two neighbours in the list of steps. -/
theorem st_pair (s : Ser) (l : List Int) (hf : farFault s (l.getD 0 0) l = 0) (k : Nat) (h : k + 1 < (Lib.compact (sortI (farL s l))).length) :
    0 ≤ (Lib.compact (sortI (farL s l))).getD k 0 ∧ (Lib.compact (sortI (farL s l))).getD k 0 < (Lib.compact (sortI (farL s l))).getD (k + 1) 0 ∧ (Lib.compact (sortI (farL s l))).getD (k + 1) 0 ≤ sizeN s / 2 := by
  have hlt := List.pairwise_iff_getElem.1 (compact_lt _ (sortI_le (farL s l))) k (k + 1) (by omega) h (by omega)
  have hm : ∀ j (hj : j < (Lib.compact (sortI (farL s l))).length), 0 ≤ (Lib.compact (sortI (farL s l)))[j] ∧ (Lib.compact (sortI (farL s l)))[j] ≤ sizeN s / 2 := fun j hj =>
    steps_half s l hf _ ((sortI_mem _ _).1 (compact_mem _ _ (List.getElem_mem hj)))
  have hk : k < (Lib.compact (sortI (farL s l))).length := by omega
  have h1 := hm k hk
  have h2 := hm (k + 1) h
  simp only [List.getD_eq_getElem?_getD, List.getElem?_eq_getElem hk, List.getElem?_eq_getElem h, Option.getD_some]
  exact ⟨h1.1, hlt, h2.2⟩
theorem compact_len (l : List Int) : (Lib.compact (sortI l)).length ≤ l.length := by
  have := Lib.compact_length_le (sortI l)
  rwa [show (sortI l).length = l.length from List.length_mergeSort l] at this
theorem pairRows_len (s : Ser) (hs : s.first ≤ s.last) (b x y : Int) (hm : y - x - 1 ≤ sizeN s) : (pairRows s b x y).length ≤ 2 := by
  have hz : 0 < sizeN s := by unfold sizeN; omega
  have h0 := Int.emod_nonneg (b + x + 1) (show sizeN s ≠ 0 by omega)
  have h1 := Int.emod_lt_of_pos (b + x + 1) hz
  have hss : sizeN s = s.last - s.first + 1 := rfl
  exact rowsL_len s hs _ _ (by omega) hm
end Go.Proofs.Ytdopillligfdiaa
