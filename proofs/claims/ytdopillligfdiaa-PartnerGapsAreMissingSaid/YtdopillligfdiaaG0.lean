/- Series and gaps, plain. -/
import Derived.Test.YtdopillligfdiaaMS
import Derived.Test.YtdopillligfdiaaVal
namespace Go.Proofs.Ytdopillligfdiaa
set_option linter.unusedSimpArgs false
set_option linter.unusedVariables false
open Go.RowKit
set_option maxRecDepth 100000
set_option maxHeartbeats 1000000

theorem series_wrap (s : Ser) : (outB s.first 0 999999999999999 || outB s.last (RowKit.wrap64 (s.first + 1)) 999999999999999) = (outB s.first 0 999999999999999 || outB s.last (s.first + 1) 999999999999999) := by
  cases h : outB s.first 0 999999999999999
  · simp only [outB, Bool.or_eq_false_iff, decide_eq_false_iff_not] at h
    rw [IntWalk.wrap64_in _ (by omega)]
  · rfl
theorem series_ok (s : Ser) (h : seriesFaultN s = 0) : 0 ≤ s.first ∧ s.first < s.last ∧ s.last ≤ 999999999999999 := by
  unfold seriesFaultN at h
  split at h
  · cases h
  · rename_i h3
    simp only [outB, Bool.or_eq_true, not_or, decide_eq_true_eq] at h3
    omega
theorem seriesFault_01 (s : Ser) : seriesFaultN s = 0 ∨ seriesFaultN s = 1 := by unfold seriesFaultN; split <;> simp
theorem isOf_bd (s : Ser) (n : Int) : isOfB s n = true ↔ s.first ≤ n ∧ n ≤ s.last := by
  simp [isOfB, outB]
def sizeN (s : Ser) : Int := s.last - s.first + 1
def betweenN (s : Ser) (a b : Int) : Int := (b - a + sizeN s) % sizeN s
def stepsN (s : Ser) (a b : Int) : Int := if a ≤ b then b - a else b - a + sizeN s
theorem between_steps (s : Ser) (a b : Int) (ha : s.first ≤ a ∧ a ≤ s.last) (hb : s.first ≤ b ∧ b ≤ s.last) : betweenN s a b = stepsN s a b := by
  unfold betweenN stepsN sizeN
  split
  · have e : b - a + (s.last - s.first + 1) = (b - a) + (s.last - s.first + 1) * 1 := by omega
    rw [e, Int.add_mul_emod_self_left, Int.emod_eq_of_lt (by omega) (by omega)]
  · rw [Int.emod_eq_of_lt (by omega) (by omega)]
theorem steps_bd (s : Ser) (a b : Int) (ha : s.first ≤ a ∧ a ≤ s.last) (hb : s.first ≤ b ∧ b ≤ s.last) : 0 ≤ stepsN s a b ∧ stepsN s a b < sizeN s := by
  unfold stepsN sizeN; split <;> omega
structure Gp where
  fr : Int
  tgt : Int
abbrev Gp.cells (g : Gp) : List Value := [.int .i64 g.fr, .int .i64 g.tgt]
def gapRows (s : Ser) : Nat → Int → Int → List Gp
  | 0, _, _ => []
  | f + 1, a, m => if m ≤ 0 then [] else if s.last - a + 1 < m then ⟨a, s.last⟩ :: gapRows s f s.first (m - (s.last - a + 1)) else [⟨a, a + m - 1⟩]
theorem gapRows_fuel (s : Ser) (hs : s.first ≤ s.last) : ∀ (f g : Nat) (a m : Int), s.first ≤ a → a ≤ s.last → m.toNat ≤ f → m.toNat ≤ g → gapRows s f a m = gapRows s g a m
  | 0, 0, _, _, _, _, _, _ => rfl
  | 0, g + 1, a, m, _, _, h, _ => by
    simp only [gapRows]; rw [if_pos (by omega)]
  | f + 1, 0, a, m, _, _, _, h => by
    simp only [gapRows]; rw [if_pos (by omega)]
  | f + 1, g + 1, a, m, h1, h2, h3, h4 => by
    simp only [gapRows]
    split
    · rfl
    · split
      · rw [gapRows_fuel s hs f g s.first _ (by omega) (by omega) (by omega) (by omega)]
      · rfl
def rowsL (s : Ser) (a m : Int) : List Gp := gapRows s m.toNat a m
theorem rowsL_nil (s : Ser) (a m : Int) (h : m ≤ 0) : rowsL s a m = [] := by
  unfold rowsL
  have : m.toNat = 0 := by omega
  rw [this]; rfl
theorem rowsL_more (s : Ser) (hs : s.first ≤ s.last) (a m : Int) (ha : s.first ≤ a ∧ a ≤ s.last) (h : s.last - a + 1 < m) : rowsL s a m = ⟨a, s.last⟩ :: rowsL s s.first (m - (s.last - a + 1)) := by
  unfold rowsL
  obtain ⟨f, hf⟩ : ∃ f, m.toNat = f + 1 := ⟨m.toNat - 1, by omega⟩
  rw [hf]
  simp only [gapRows]
  rw [if_neg (by omega), if_pos h, gapRows_fuel s hs f _ s.first _ (by omega) (by omega) (by omega) (Nat.le_refl _)]
theorem rowsL_last (s : Ser) (a m : Int) (h0 : 0 < m) (h : m ≤ s.last - a + 1) : rowsL s a m = [⟨a, a + m - 1⟩] := by
  unfold rowsL
  obtain ⟨f, hf⟩ : ∃ f, m.toNat = f + 1 := ⟨m.toNat - 1, by omega⟩
  rw [hf]
  simp only [gapRows]
  rw [if_neg (by omega), if_neg (by omega)]
/-- One step of the loop that writes rows. -/
theorem rowsL_step (s : Ser) (hs : s.first ≤ s.last) (cur up : Int) (h0 : 0 ≤ cur) (h1 : cur < up) :
    rowsL s (s.first + cur % sizeN s) (up - cur) = ⟨s.first + cur % sizeN s, s.first + cur % sizeN s + min (up - cur) (s.last - (s.first + cur % sizeN s) + 1) - 1⟩ ::
      rowsL s (s.first + (cur + min (up - cur) (s.last - (s.first + cur % sizeN s) + 1)) % sizeN s) (up - (cur + min (up - cur) (s.last - (s.first + cur % sizeN s) + 1))) := by
  have hz : 0 < sizeN s := by unfold sizeN; omega
  have hm0 := Int.emod_nonneg cur (show sizeN s ≠ 0 by omega)
  have hm1 := Int.emod_lt_of_pos cur hz
  have hsz : sizeN s = s.last - s.first + 1 := rfl
  by_cases h : s.last - (s.first + cur % sizeN s) + 1 < up - cur
  · have hmin : min (up - cur) (s.last - (s.first + cur % sizeN s) + 1) = s.last - (s.first + cur % sizeN s) + 1 := by omega
    rw [hmin, rowsL_more s hs _ _ (by omega) h]
    have e : (cur + (s.last - (s.first + cur % sizeN s) + 1)) % sizeN s = 0 := by
      have : cur + (s.last - (s.first + cur % sizeN s) + 1) = sizeN s * (cur / sizeN s + 1) := by
        have := Int.mul_ediv_add_emod cur (sizeN s)
        rw [Int.mul_add, Int.mul_one]; omega
      rw [this, Int.mul_emod_right]
    rw [e]
    congr 1
    · congr 1; omega
    · congr 1 <;> omega
  · have hmin : min (up - cur) (s.last - (s.first + cur % sizeN s) + 1) = up - cur := by omega
    rw [hmin, rowsL_last s _ _ (by omega) (by omega), rowsL_nil s _ (up - (cur + (up - cur))) (by omega)]
theorem rowsL_len (s : Ser) (hs : s.first ≤ s.last) (a m : Int) (ha : s.first ≤ a ∧ a ≤ s.last) (hm : m ≤ sizeN s) : (rowsL s a m).length ≤ 2 := by
  have hsz : sizeN s = s.last - s.first + 1 := rfl
  by_cases h : s.last - a + 1 < m
  · rw [rowsL_more s hs a m ha h]
    by_cases h0 : 0 < m - (s.last - a + 1)
    · rw [rowsL_last s _ _ h0 (by omega)]; simp
    · rw [rowsL_nil s _ _ (by omega)]; simp
  · by_cases h0 : 0 < m
    · rw [rowsL_last s _ _ h0 (by omega)]; simp
    · rw [rowsL_nil s _ _ (by omega)]; simp
theorem sizeN_bd (s : Ser) (hok : seriesFaultN s = 0) : 2 ≤ sizeN s ∧ sizeN s ≤ 1000000000000000 := by
  have := series_ok s hok
  unfold sizeN; omega
def betweenSp (s : Ser) (a b : Int) : Int × Int := if seriesFaultN s ≠ 0 then (0, seriesFaultN s) else if (isOfB s a && isOfB s b) = true then (stepsN s a b, 0) else (0, 1)
/-- What is wrong with numbers: the first of them that is. -/
def farFault (s : Ser) (l0 : Int) : List Int → Int
  | [] => 0
  | n :: r => if isOfB s n = false then 1 else if sizeN s / 2 < stepsN s l0 n then 8 else farFault s l0 r
def farOk (s : Ser) (l0 n : Int) : Bool := isOfB s n && !decide (sizeN s / 2 < stepsN s l0 n)
theorem farFault_at (s : Ser) (l0 : Int) : ∀ (l : List Int) (k : Nat), (∀ j, j < k → farOk s l0 (l.getD j 0) = true) → k < l.length →
    (isOfB s (l.getD k 0) = false → farFault s l0 l = 1) ∧ (isOfB s (l.getD k 0) = true → sizeN s / 2 < stepsN s l0 (l.getD k 0) → farFault s l0 l = 8)
  | n :: r, 0, _, _ => by
    simp only [List.getD_cons_zero, farFault]
    refine ⟨fun h => by rw [if_pos h], fun h h2 => by rw [if_neg (by rw [h]; simp), if_pos h2]⟩
  | n :: r, k + 1, hk, hl => by
    have h0 := hk 0 (by omega)
    simp only [List.getD_cons_zero, farOk, Bool.and_eq_true, Bool.not_eq_true', decide_eq_false_iff_not] at h0
    have ih := farFault_at s l0 r k (fun j hj => by simpa using hk (j + 1) (by omega)) (by simpa using hl)
    simp only [List.getD_cons_succ, farFault]
    rw [if_neg (by rw [h0.1]; simp), if_neg h0.2]
    exact ih
theorem farFault_end (s : Ser) (l0 : Int) : ∀ (l : List Int), (∀ j, j < l.length → farOk s l0 (l.getD j 0) = true) → farFault s l0 l = 0
  | [], _ => rfl
  | n :: r, hk => by
    have h0 := hk 0 (by simp)
    simp only [List.getD_cons_zero, farOk, Bool.and_eq_true, Bool.not_eq_true', decide_eq_false_iff_not] at h0
    simp only [farFault]
    rw [if_neg (by rw [h0.1]; simp), if_neg h0.2]
    exact farFault_end s l0 r (fun j hj => by simpa using hk (j + 1) (by simpa using hj))
/-- The steps from the first number to each. -/
def farL (s : Ser) (l : List Int) : List Int := l.map (stepsN s (l.getD 0 0))
def glue (pr : Int → Int → List Gp) : List Int → List Gp
  | [] => []
  | [_] => []
  | x :: y :: r => pr x y ++ glue pr (y :: r)
theorem glue_snoc (pr : Int → Int → List Gp) : ∀ (xs : List Int) (x y : Int), glue pr (xs ++ [x] ++ [y]) = glue pr (xs ++ [x]) ++ pr x y
  | [], x, y => by simp [glue]
  | [a], x, y => by simp [glue]
  | a :: b :: r, x, y => by
    have ih := glue_snoc pr (b :: r) x y
    simp only [List.cons_append, glue, List.append_assoc] at ih ⊢
    rw [ih]
theorem glue_take (pr : Int → Int → List Gp) (l : List Int) (k : Nat) (h : k + 1 < l.length) : glue pr (l.take (k + 2)) = glue pr (l.take (k + 1)) ++ pr (l.getD k 0) (l.getD (k + 1) 0) := by
  have e1 : l.take (k + 1) = l.take k ++ [l.getD k 0] := by rw [List.take_succ_eq_append_getElem (by omega)]; simp [List.getD_eq_getElem?_getD, show k < l.length by omega]
  have e2 : l.take (k + 2) = l.take (k + 1) ++ [l.getD (k + 1) 0] := by rw [List.take_succ_eq_append_getElem h]; simp [List.getD_eq_getElem?_getD, h]
  rw [e2, e1, glue_snoc]
/-- What lies between two steps, as rows. -/
def pairRows (s : Ser) (b x y : Int) : List Gp := rowsL s (s.first + (b + x + 1) % sizeN s) (y - x - 1)
theorem pairRows_none (s : Ser) (b x y : Int) (h : y ≤ x + 1) : pairRows s b x y = [] := rowsL_nil _ _ _ (by omega)
/-- To leave out what is there twice changes nothing. -/
theorem glue_compactUpTo (pr : Int → Int → List Gp) (hpr : ∀ x, pr x x = []) (d : Array Int) : ∀ m, m ≤ d.size → glue pr (Lib.compactUpTo d m) = glue pr (d.toList.take m) ∧ (0 < m → ∃ xs, Lib.compactUpTo d m = xs ++ [d[m - 1]!])
  | 0, _ => by simp [Lib.compactUpTo]
  | 1, h => by
    have e : Lib.compactUpTo d 1 = [d[0]!] := by rw [Lib.compactUpTo_succ, Lib.keeps_lt_one d 0 (by omega)]; simp [Lib.compactUpTo]
    rw [e]
    refine ⟨?_, fun _ => ⟨[], by simp⟩⟩
    have : d.toList.take 1 = [d[0]!] := by
      rw [List.take_succ_eq_append_getElem (by simp; omega)]
      simp [getElem!_pos, show 0 < d.size by omega]
    rw [this]
  | m + 2, h => by
    obtain ⟨ih1, ih2⟩ := glue_compactUpTo pr hpr d (m + 1) (by omega)
    obtain ⟨xs, hxs⟩ := ih2 (by omega)
    simp only [Nat.add_sub_cancel] at hxs
    have hd1 : d[m + 1]! = d.toList.getD (m + 1) 0 := by simp [getElem!_pos, show m + 1 < d.size by omega, List.getD_eq_getElem?_getD]
    have hd0 : d[m]! = d.toList.getD m 0 := by simp [getElem!_pos, show m < d.size by omega, List.getD_eq_getElem?_getD]
    have ht := glue_take pr d.toList m (by simp; omega)
    rw [← hd1, ← hd0] at ht
    have hc := Lib.compactUpTo_succ d (m + 1)
    rw [hc, ht, ← ih1]
    by_cases he : d[m + 1]! = d[m]!
    · rw [Lib.keeps_neg (by omega) (by simpa using he)]
      simp only [Bool.false_eq_true, if_false, List.append_nil]
      rw [he, hpr, List.append_nil]
      refine ⟨rfl, fun _ => ⟨xs, ?_⟩⟩
      rw [hxs]
      have e : m + 2 - 1 = m + 1 := by omega
      rw [e, he]
    · rw [Lib.keeps_pos (by simpa using he)]
      simp only [if_true]
      refine ⟨?_, fun _ => ⟨xs ++ [d[m]!], ?_⟩⟩
      · rw [hxs, glue_snoc]
      · rw [hxs]
        have e : m + 2 - 1 = m + 1 := by omega
        rw [e]
theorem glue_compact (pr : Int → Int → List Gp) (hpr : ∀ x, pr x x = []) (l : List Int) : glue pr (Lib.compact l) = glue pr l := by
  have := (glue_compactUpTo pr hpr l.toArray l.length (by simp)).1
  simpa [Lib.compact] using this
theorem compactUpTo_lt (d : Array Int) (hd : ∀ i j, i ≤ j → j < d.size → d[i]! ≤ d[j]!) : ∀ m, m ≤ d.size → (Lib.compactUpTo d m).Pairwise (· < ·) ∧ (∀ x ∈ Lib.compactUpTo d m, x ≤ d[m - 1]!)
  | 0, _ => by simp [Lib.compactUpTo]
  | m + 1, h => by
    obtain ⟨h1, h2⟩ := compactUpTo_lt d hd m (by omega)
    have hle : ∀ x ∈ Lib.compactUpTo d m, x ≤ d[m]! := fun x hx => Int.le_trans (h2 x hx) (hd _ _ (by omega) (by omega))
    rw [Lib.compactUpTo_succ]
    simp only [Nat.add_sub_cancel]
    by_cases hk : Lib.keeps d m = true
    · rw [if_pos hk]
      refine ⟨List.pairwise_append.2 ⟨h1, by simp, fun x hx y hy => ?_⟩, fun x hx => ?_⟩
      · simp only [List.mem_singleton] at hy
        subst hy
        have h3 := h2 x hx
        have h4 := hd (m - 1) m (by omega) (by omega)
        rcases Nat.eq_zero_or_pos m with h0 | h0
        · subst h0; simp [Lib.compactUpTo] at hx
        · simp only [Lib.keeps, decide_eq_true_eq] at hk
          have : d[m]! ≠ d[m - 1]! := by rcases hk with hk | hk; omega; exact hk
          omega
      · rcases List.mem_append.1 hx with hx | hx
        · exact hle x hx
        · simp only [List.mem_singleton] at hx; omega
    · rw [if_neg hk, List.append_nil]
      exact ⟨h1, hle⟩
theorem sortI_le (l : List Int) : (sortI l).Pairwise (· ≤ ·) := by
  have := List.pairwise_mergeSort (le := fun x y : Int => decide (x ≤ y)) (fun a b c h1 h2 => by simp at *; omega) (fun a b => by simp; omega) l
  exact this.imp (by simp)
theorem compact_lt (l : List Int) (h : l.Pairwise (· ≤ ·)) : (Lib.compact l).Pairwise (· < ·) := by
  refine (compactUpTo_lt l.toArray (fun i j hij hj => ?_) l.length (by simp)).1
  simp only [List.size_toArray] at hj
  rcases Nat.lt_or_ge i j with hlt | hge
  · have := List.pairwise_iff_getElem.1 h i j (by omega) hj hlt
    simpa [getElem!_pos, show i < l.length by omega, hj] using this
  · have : i = j := by omega
    subst this; exact Int.le_refl _
theorem compact_mem (l : List Int) (x : Int) (h : x ∈ Lib.compact l) : x ∈ l := by
  unfold Lib.compact Lib.compactUpTo at h
  obtain ⟨j, hj, rfl⟩ := List.mem_map.1 h
  have hj' : j < l.length := by have := (List.mem_filter.1 hj).1; simpa using this
  simp [getElem!_pos, hj']
theorem sortI_mem (l : List Int) (x : Int) : x ∈ sortI l ↔ x ∈ l := List.mem_mergeSort
theorem glue_len (pr : Int → Int → List Gp) : ∀ (l : List Int), (∀ k, k + 1 < l.length → (pr (l.getD k 0) (l.getD (k + 1) 0)).length ≤ 2) → (glue pr l).length ≤ 2 * l.length
  | [], _ => by simp [glue]
  | [_], _ => by simp [glue]
  | x :: y :: r, h => by
    have h1 := glue_len pr (y :: r) (fun k hk => by have := h (k + 1) (by simpa using hk); simpa using this)
    have h2 := h 0 (by simp)
    simp only [List.getD_cons_zero, List.getD_cons_succ, Nat.zero_add] at h2
    simp only [glue, List.length_append, List.length_cons] at h1 ⊢
    omega
theorem getD_take (l : List Int) (n k : Nat) (h : k < n) : (l.take n).getD k 0 = l.getD k 0 := by
  simp only [List.getD_eq_getElem?_getD, List.getElem?_take, if_pos h]
def gapsFault (s : Ser) (l : List Int) : Int := if seriesFaultN s ≠ 0 then seriesFaultN s else if 1000 < l.length then 2 else farFault s (l.getD 0 0) l
def gapsL (s : Ser) (l : List Int) : List Gp := if gapsFault s l = 0 then glue (pairRows s (l.getD 0 0 - s.first)) (sortI (farL s l)) else []
theorem steps_half (s : Ser) (l : List Int) (hf : farFault s (l.getD 0 0) l = 0) : ∀ x ∈ farL s l, 0 ≤ x ∧ x ≤ sizeN s / 2 := by
  have key : ∀ (l0 : Int) (m : List Int), isOfB s l0 = true → farFault s l0 m = 0 → ∀ x ∈ m.map (stepsN s l0), 0 ≤ x ∧ x ≤ sizeN s / 2 := by
    intro l0 m h0
    induction m with
    | nil => intro _ x hx; simp at hx
    | cons n r ih =>
      intro h x hx
      simp only [farFault] at h
      split at h
      · cases h
      · rename_i h1
        split at h
        · cases h
        · rename_i h2
          simp only [List.map_cons, List.mem_cons] at hx
          rcases hx with rfl | hx
          · have h3 := (isOf_bd s l0).1 h0
            have h4 := (isOf_bd s n).1 (by simpa using h1)
            have h5 : sizeN s = s.last - s.first + 1 := rfl
            unfold stepsN at h2 ⊢
            split <;> split at h2 <;> omega
          · exact ih h x hx
  cases l with
  | nil => intro x hx; simp [farL] at hx
  | cons n r =>
    refine key _ _ ?_ hf
    simp only [List.getD_cons_zero, farFault] at hf ⊢
    split at hf
    · cases hf
    · rename_i h1; simpa using h1
/-- What is wanted of two neighbours in the list of steps. -/
theorem st_pair (s : Ser) (l : List Int) (hf : farFault s (l.getD 0 0) l = 0) (k : Nat) (h : k + 1 < (Lib.compact (sortI (farL s l))).length) :
    0 ≤ (Lib.compact (sortI (farL s l))).getD k 0 ∧ (Lib.compact (sortI (farL s l))).getD k 0 < (Lib.compact (sortI (farL s l))).getD (k + 1) 0 ∧ (Lib.compact (sortI (farL s l))).getD (k + 1) 0 ≤ sizeN s / 2 := by
  have hlt := List.pairwise_iff_getElem.1 (compact_lt _ (sortI_le (farL s l))) k (k + 1) (by omega) h (by omega)
  have hm : ∀ j (hj : j < (Lib.compact (sortI (farL s l))).length), 0 ≤ (Lib.compact (sortI (farL s l)))[j] ∧ (Lib.compact (sortI (farL s l)))[j] ≤ sizeN s / 2 := fun j hj =>
    steps_half s l hf _ ((sortI_mem _ _).1 (compact_mem _ _ (List.getElem_mem hj)))
  have hk : k < (Lib.compact (sortI (farL s l))).length := by omega
  have h1 := hm k hk
  have h2 := hm (k + 1) h
  simp only [List.getD_eq_getElem?_getD, List.getElem?_eq_getElem hk, List.getElem?_eq_getElem h, Option.getD_some]
  exact ⟨h1.1, hlt, h2.2⟩
theorem compact_len (l : List Int) : (Lib.compact (sortI l)).length ≤ l.length := by
  have := Lib.compact_length_le (sortI l)
  rwa [show (sortI l).length = l.length from List.length_mergeSort l] at this
theorem pairRows_len (s : Ser) (hs : s.first ≤ s.last) (b x y : Int) (hm : y - x - 1 ≤ sizeN s) : (pairRows s b x y).length ≤ 2 := by
  have hz : 0 < sizeN s := by unfold sizeN; omega
  have h0 := Int.emod_nonneg (b + x + 1) (show sizeN s ≠ 0 by omega)
  have h1 := Int.emod_lt_of_pos (b + x + 1) hz
  have hss : sizeN s = s.last - s.first + 1 := rfl
  exact rowsL_len s hs _ _ (by omega) hm
def inGp (n : Int) (g : Gp) : Bool := decide (g.fr ≤ n) && decide (n ≤ g.tgt)
def coverN (l : List Gp) : Int := l.foldr (fun g n => (g.tgt - g.fr + 1) + n) 0
theorem coverN_snoc : ∀ (l : List Gp) (g : Gp), coverN (l ++ [g]) = coverN l + (g.tgt - g.fr + 1)
  | [], g => by simp [coverN]
  | x :: l, g => by
    have ih := coverN_snoc l g
    simp only [coverN, List.cons_append, List.foldr_cons] at ih ⊢
    omega
def Gp.Bd (g : Gp) : Prop := 0 ≤ g.fr ∧ g.fr ≤ g.tgt ∧ g.tgt ≤ 999999999999999
theorem coverN_bd : ∀ (l : List Gp), (∀ g ∈ l, g.Bd) → 0 ≤ coverN l ∧ coverN l ≤ 1000000000000000 * l.length
  | [], _ => by simp [coverN]
  | x :: l, h => by
    have ih := coverN_bd l (fun g hg => h g (by simp [hg]))
    obtain ⟨h1, h2, h3⟩ := h x (by simp)
    simp only [coverN, List.foldr_cons, List.length_cons] at ih ⊢
    omega
theorem farFault_ok (s : Ser) (l0 : Int) : ∀ (l : List Int), farFault s l0 l = 0 → ∀ k, k < l.length → farOk s l0 (l.getD k 0) = true
  | [], _, k, hk => by simp at hk
  | n :: r, h, k, hk => by
    simp only [farFault] at h
    split at h
    · cases h
    · rename_i h1
      split at h
      · cases h
      · rename_i h2
        match k, hk with
        | 0, _ => simp only [List.getD_cons_zero, farOk, Bool.and_eq_true, Bool.not_eq_true', decide_eq_false_iff_not]; exact ⟨by simpa using h1, h2⟩
        | k + 1, hk => simpa using farFault_ok s l0 r h k (by simpa using hk)
def spreadN (s : Ser) (l0 : Int) (l : List Int) : Int := l.foldl (fun m n => max m (stepsN s l0 n)) 0
theorem coverN_app : ∀ (a b : List Gp), coverN (a ++ b) = coverN a + coverN b
  | [], b => by simp [coverN]
  | x :: a, b => by
    have ih := coverN_app a b
    simp only [coverN, List.cons_append, List.foldr_cons] at ih ⊢
    omega
/-- Rows of at most the whole series: one or two. -/
theorem rows_shape (s : Ser) (hs : s.first ≤ s.last) (a m : Int) (ha : s.first ≤ a ∧ a ≤ s.last) (h0 : 0 < m) (hm : m ≤ sizeN s) :
    (m ≤ s.last - a + 1 ∧ rowsL s a m = [⟨a, a + m - 1⟩]) ∨ (s.last - a + 1 < m ∧ rowsL s a m = [⟨a, s.last⟩, ⟨s.first, s.first + (m - (s.last - a + 1)) - 1⟩]) := by
  have hsz : sizeN s = s.last - s.first + 1 := rfl
  by_cases h : m ≤ s.last - a + 1
  · exact .inl ⟨h, rowsL_last s a m h0 h⟩
  · refine .inr ⟨by omega, ?_⟩
    rw [rowsL_more s hs a m ha (by omega), rowsL_last s s.first _ (by omega) (by omega)]
theorem cover_rows (s : Ser) (hs : s.first ≤ s.last) (a m : Int) (ha : s.first ≤ a ∧ a ≤ s.last) (h0 : 0 ≤ m) (hm : m ≤ sizeN s) : coverN (rowsL s a m) = m := by
  by_cases hz : 0 < m
  · rcases rows_shape s hs a m ha hz hm with ⟨_, h⟩ | ⟨_, h⟩ <;> rw [h] <;> simp only [coverN, List.foldr_cons, List.foldr_nil] <;> omega
  · rw [rowsL_nil s a m (by omega)]
    simp only [coverN, List.foldr_nil]
    omega
theorem in_rows (s : Ser) (hs : s.first ≤ s.last) (a m n : Int) (ha : s.first ≤ a ∧ a ≤ s.last) (hm : m ≤ sizeN s) (hi : (rowsL s a m).any (inGp n) = true) : stepsN s a n < m := by
  have hsz : sizeN s = s.last - s.first + 1 := rfl
  by_cases hz : 0 < m
  · unfold stepsN
    rcases rows_shape s hs a m ha hz hm with ⟨_, h⟩ | ⟨_, h⟩ <;> rw [h] at hi <;> simp [inGp] at hi <;> split <;> omega
  · rw [rowsL_nil s a m (by omega)] at hi
    simp at hi
theorem bd_rows (s : Ser) (hs : 0 ≤ s.first ∧ s.first ≤ s.last ∧ s.last ≤ 999999999999999) (a m : Int) (ha : s.first ≤ a ∧ a ≤ s.last) (hm : m ≤ sizeN s) : ∀ g ∈ rowsL s a m, g.Bd := by
  have hsz : sizeN s = s.last - s.first + 1 := rfl
  intro g hg
  by_cases hz : 0 < m
  · rcases rows_shape s hs.2.1 a m ha hz hm with ⟨_, h⟩ | ⟨_, h⟩ <;> rw [h] at hg <;> simp at hg
    · subst hg; simp only [Gp.Bd]; omega
    · rcases hg with rfl | rfl <;> simp only [Gp.Bd] <;> omega
  · rw [rowsL_nil s a m (by omega)] at hg
    simp at hg
/-- Where a pair's rows begin. -/
theorem pair_at (s : Ser) (b x : Int) (hb : 0 ≤ b ∧ b < sizeN s) (hx : 0 ≤ x ∧ x < sizeN s) :
    (b + x + 1 < sizeN s ∧ (b + x + 1) % sizeN s = b + x + 1) ∨ (sizeN s ≤ b + x + 1 ∧ (b + x + 1) % sizeN s = b + x + 1 - sizeN s) := by
  by_cases h : b + x + 1 < sizeN s
  · exact .inl ⟨h, Int.emod_eq_of_lt (by omega) h⟩
  · refine .inr ⟨by omega, ?_⟩
    have e : b + x + 1 = (b + x + 1 - sizeN s) + sizeN s * 1 := by omega
    have : (b + x + 1) % sizeN s = (b + x + 1 - sizeN s) % sizeN s := by
      conv => lhs; rw [e, Int.add_mul_emod_self_left]
    rw [this]
    by_cases h2 : b + x + 1 - sizeN s < sizeN s
    · exact Int.emod_eq_of_lt (by omega) h2
    · omega
theorem glue_mem (pr : Int → Int → List Gp) : ∀ (l : List Int) (g : Gp), g ∈ glue pr l → ∃ k, ∃ h : k + 1 < l.length, g ∈ pr l[k] l[k + 1]
  | [], g, h => by simp [glue] at h
  | [_], g, h => by simp [glue] at h
  | x :: y :: r, g, h => by
    simp only [glue, List.mem_append] at h
    rcases h with h | h
    · exact ⟨0, by simp, h⟩
    · obtain ⟨k, hk, hg⟩ := glue_mem pr (y :: r) g h
      exact ⟨k + 1, by simpa using hk, by simpa using hg⟩
theorem glue_cover (s : Ser) (hs : s.first ≤ s.last) (b : Int) (hb : 0 ≤ b ∧ b < sizeN s) : ∀ (x : Int) (r : List Int), (x :: r).Pairwise (· < ·) → (∀ z ∈ x :: r, 0 ≤ z ∧ z < sizeN s) →
    coverN (glue (pairRows s b) (x :: r)) + (x :: r).length = (x :: r).getLast (by simp) - x + 1
  | x, [], _, _ => by simp [glue, coverN]
  | x, y :: r, hp, hz => by
    have ih := glue_cover s hs b hb y r (List.pairwise_cons.1 hp).2 (fun z h => hz z (by simp [h]))
    have hxy : x < y := (List.pairwise_cons.1 hp).1 y (by simp)
    have hx := hz x (by simp)
    have hy := hz y (by simp)
    have hsz : sizeN s = s.last - s.first + 1 := rfl
    have hc : coverN (pairRows s b x y) = y - x - 1 := by
      unfold pairRows
      refine cover_rows s hs _ _ ?_ (by omega) (by omega)
      rcases pair_at s b x hb hx with ⟨h1, h2⟩ | ⟨h1, h2⟩ <;> rw [h2] <;> omega
    rw [List.getLast_cons (by simp)]
    simp only [glue, coverN_app, List.length_cons] at ih ⊢
    omega
theorem nodup_le {α : Type} [DecidableEq α] : ∀ (a b : List α), a.Nodup → (∀ x ∈ a, x ∈ b) → a.length ≤ b.length
  | [], b, _, _ => by simp
  | x :: a, b, hd, h => by
    have hx := h x (by simp)
    have hn := List.nodup_cons.1 hd
    have := nodup_le a (b.erase x) hn.2 (fun z hz => (List.mem_erase_of_ne (show z ≠ x from fun e => hn.1 (by rw [← e]; exact hz))).2 (h z (by simp [hz])))
    rw [List.length_erase_of_mem hx] at this
    have hp : 0 < b.length := List.length_pos_of_mem hx
    simp only [List.length_cons]
    omega
theorem mem_compactUpTo (d : Array Int) : ∀ m, ∀ j, j < m → d[j]! ∈ Lib.compactUpTo d m
  | 0, j, h => by omega
  | m + 1, j, h => by
    rw [Lib.compactUpTo_succ]
    by_cases hk : Lib.keeps d m = true
    · rw [if_pos hk]
      rcases Nat.lt_or_ge j m with hj | hj
      · exact List.mem_append.2 (.inl (mem_compactUpTo d m j hj))
      · have : j = m := by omega
        subst this; simp
    · rw [if_neg hk, List.append_nil]
      rcases Nat.lt_or_ge j m with hj | hj
      · exact mem_compactUpTo d m j hj
      · have : j = m := by omega
        subst this
        simp only [Lib.keeps, decide_eq_true_eq, not_or, Decidable.not_not] at hk
        obtain ⟨h1, h2⟩ := hk
        rw [h2]
        exact mem_compactUpTo d j (j - 1) (by omega)
theorem mem_compact (l : List Int) (x : Int) (h : x ∈ l) : x ∈ Lib.compact l := by
  obtain ⟨j, hj, rfl⟩ := List.getElem_of_mem h
  have := mem_compactUpTo l.toArray l.length j hj
  simpa [Lib.compact, getElem!_pos, hj] using this
theorem distinct_mem (l : List Int) (x : Int) : x ∈ Lib.compact (sortI l) ↔ x ∈ l :=
  ⟨fun h => (sortI_mem l x).1 (compact_mem _ _ h), fun h => mem_compact _ _ ((sortI_mem l x).2 h)⟩
theorem distinct_nodup (l : List Int) : (Lib.compact (sortI l)).Nodup :=
  (compact_lt _ (sortI_le l)).imp (fun h => by omega)
theorem spread_ge (s : Ser) (l0 : Int) : ∀ (l : List Int) (m : Int), m ≤ l.foldl (fun m n => max m (stepsN s l0 n)) m ∧ (∀ z ∈ l, stepsN s l0 z ≤ l.foldl (fun m n => max m (stepsN s l0 n)) m) ∧
    (l.foldl (fun m n => max m (stepsN s l0 n)) m = m ∨ ∃ z ∈ l, l.foldl (fun m n => max m (stepsN s l0 n)) m = stepsN s l0 z)
  | [], m => by simp
  | x :: l, m => by
    obtain ⟨h1, h2, h3⟩ := spread_ge s l0 l (max m (stepsN s l0 x))
    simp only [List.foldl_cons]
    refine ⟨by omega, fun z hz => ?_, ?_⟩
    · rcases List.mem_cons.1 hz with rfl | hz
      · omega
      · exact h2 z hz
    · rcases h3 with h3 | ⟨z, hz, h3⟩
      · by_cases h : stepsN s l0 x ≤ m
        · exact .inl (by omega)
        · exact .inr ⟨x, by simp, by omega⟩
      · exact .inr ⟨z, by simp [hz], h3⟩
theorem steps_cases (s : Ser) (a b : Int) : (a ≤ b ∧ stepsN s a b = b - a) ∨ (b < a ∧ stepsN s a b = b - a + sizeN s) := by
  unfold stepsN; split <;> omega
theorem steps_mid (s : Ser) (l0 x y n : Int) (h0 : s.first ≤ l0 ∧ l0 ≤ s.last) (hn : s.first ≤ n ∧ n ≤ s.last) (hx : 0 ≤ x ∧ x < y ∧ y ≤ sizeN s / 2)
    (hst : stepsN s (s.first + (l0 - s.first + x + 1) % sizeN s) n < y - x - 1) (hbt : 0 ≤ stepsN s l0 n ∧ stepsN s l0 n ≤ sizeN s / 2) : x < stepsN s l0 n ∧ stepsN s l0 n < y := by
  have hsz : sizeN s = s.last - s.first + 1 := rfl
  rcases pair_at s (l0 - s.first) x (by omega) (by omega) with ⟨h1, h2⟩ | ⟨h1, h2⟩ <;> rw [h2] at hst <;> rcases steps_cases s l0 n with ⟨c1, c2⟩ | ⟨c1, c2⟩
  · rcases steps_cases s (s.first + (l0 - s.first + x + 1)) n with ⟨d1, d2⟩ | ⟨d1, d2⟩ <;> omega
  · rcases steps_cases s (s.first + (l0 - s.first + x + 1)) n with ⟨d1, d2⟩ | ⟨d1, d2⟩ <;> omega
  · rcases steps_cases s (s.first + (l0 - s.first + x + 1 - sizeN s)) n with ⟨d1, d2⟩ | ⟨d1, d2⟩ <;> omega
  · rcases steps_cases s (s.first + (l0 - s.first + x + 1 - sizeN s)) n with ⟨d1, d2⟩ | ⟨d1, d2⟩ <;> omega
/-- What stands behind law 4. -/
structure L4 (s : Ser) (l : List Int) : Prop where
  out : ∀ n ∈ l, (gapsL s l).any (inGp n) = false
  bd : ∀ g ∈ gapsL s l, g.Bd
  len : (gapsL s l).length ≤ 2 * l.length
  sum : coverN (gapsL s l) + (Lib.compact (sortI l)).length = spreadN s (l.getD 0 0) l + 1
theorem law4_plain (s : Ser) (l : List Int) (hl : 0 < l.length) (hg : gapsFault s l = 0) : L4 s l := by
  have hser : seriesFaultN s = 0 := by
    by_cases h : seriesFaultN s = 0
    · exact h
    · unfold gapsFault at hg; rw [if_pos h] at hg; exact absurd hg h
  have hf : farFault s (l.getD 0 0) l = 0 := by
    unfold gapsFault at hg
    rw [if_neg (by simpa using hser)] at hg
    split at hg
    · cases hg
    · exact hg
  have hs := series_ok s hser
  have hsz : sizeN s = s.last - s.first + 1 := rfl
  have hin : ∀ n ∈ l, s.first ≤ n ∧ n ≤ s.last := fun n hn => by
    obtain ⟨k, hk, rfl⟩ := List.getElem_of_mem hn
    have := farFault_ok s _ l hf k hk
    simp only [farOk, Bool.and_eq_true] at this
    have h := (isOf_bd s _).1 this.1
    simpa [List.getD_eq_getElem?_getD, hk] using h
  have h0m : l.getD 0 0 ∈ l := by
    simp only [List.getD_eq_getElem?_getD, List.getElem?_eq_getElem hl, Option.getD_some]
    exact List.getElem_mem hl
  have h0 := hin _ h0m
  have hhalf := steps_half s l hf
  have hgl : gapsL s l = glue (pairRows s (l.getD 0 0 - s.first)) (sortI (farL s l)) := by unfold gapsL; rw [if_pos hg]
  have hpr : ∀ x, pairRows s (l.getD 0 0 - s.first) x x = [] := fun x => pairRows_none _ _ _ _ (by omega)
  have hgc : gapsL s l = glue (pairRows s (l.getD 0 0 - s.first)) (Lib.compact (sortI (farL s l))) := by rw [hgl, glue_compact _ hpr]
  have hC : ∀ z ∈ Lib.compact (sortI (farL s l)), 0 ≤ z ∧ z ≤ sizeN s / 2 := fun z hz => hhalf z ((distinct_mem _ _).1 hz)
  have hlt := compact_lt _ (sortI_le (farL s l))
  have hdm := distinct_mem (farL s l)
  have hdn := distinct_nodup (farL s l)
  have hclen := compact_len (farL s l)
  generalize hCC : Lib.compact (sortI (farL s l)) = C at *
  have hat : ∀ x, 0 ≤ x ∧ x ≤ sizeN s / 2 → s.first ≤ s.first + (l.getD 0 0 - s.first + x + 1) % sizeN s ∧ s.first + (l.getD 0 0 - s.first + x + 1) % sizeN s ≤ s.last := fun x hx => by
    rcases pair_at s (l.getD 0 0 - s.first) x (by omega) (by omega) with ⟨h1, h2⟩ | ⟨h1, h2⟩ <;> rw [h2] <;> omega
  have hpair : ∀ k (h : k + 1 < C.length), 0 ≤ C[k] ∧ C[k] < C[k + 1] ∧ C[k + 1] ≤ sizeN s / 2 := fun k h =>
    ⟨(hC _ (List.getElem_mem (by omega))).1, List.pairwise_iff_getElem.1 hlt k (k + 1) (by omega) h (by omega), (hC _ (List.getElem_mem h)).2⟩
  have hfar : (farL s l).length = l.length := by simp [farL]
  have hto : ∀ n ∈ l, stepsN s (l.getD 0 0) n ∈ C := fun n hn => (hdm _).2 (List.mem_map.2 ⟨n, hn, rfl⟩)
  refine ⟨fun n hn => ?_, fun g hgm => ?_, ?_, ?_⟩
  · cases hany : (gapsL s l).any (inGp n)
    · rfl
    exfalso
    obtain ⟨g, hgm, hgi⟩ := List.any_eq_true.1 hany
    rw [hgc] at hgm
    obtain ⟨k, hk, hgk⟩ := glue_mem _ _ _ hgm
    obtain ⟨p1, p2, p3⟩ := hpair k hk
    have hst := in_rows s (by omega) _ _ n (hat C[k] (by omega)) (by omega) (List.any_eq_true.2 ⟨g, hgk, hgi⟩)
    obtain ⟨j, hj, hje⟩ := List.getElem_of_mem (hto n hn)
    have hnb := hin n hn
    have hbt := hhalf _ (List.mem_map.2 ⟨n, hn, rfl⟩)
    have hmid := steps_mid s (l.getD 0 0) C[k] C[k + 1] n h0 hnb ⟨p1, p2, p3⟩ hst hbt
    rw [← hje] at hmid
    rcases Nat.lt_or_ge k j with h | h
    · rcases Nat.eq_or_lt_of_le (show k + 1 ≤ j from h) with h | h
      · subst h; omega
      · have := List.pairwise_iff_getElem.1 hlt (k + 1) j hk hj h
        omega
    · rcases Nat.eq_or_lt_of_le h with h | h
      · subst h; omega
      · have := List.pairwise_iff_getElem.1 hlt j k hj (by omega) h
        omega
  · rw [hgc] at hgm
    obtain ⟨k, hk, hgk⟩ := glue_mem _ _ _ hgm
    obtain ⟨p1, p2, p3⟩ := hpair k hk
    exact bd_rows s (by omega) _ _ (hat C[k] (by omega)) (by omega) g hgk
  · rw [hgc]
    have := glue_len (pairRows s (l.getD 0 0 - s.first)) C (fun k hk => by
      have hk' : k < C.length := by omega
      obtain ⟨p1, p2, p3⟩ := hpair k hk
      simp only [List.getD_eq_getElem?_getD, List.getElem?_eq_getElem hk, List.getElem?_eq_getElem hk', Option.getD_some]
      exact pairRows_len s (by omega) _ _ _ (by omega))
    omega
  · have hcount : (Lib.compact (sortI l)).length = C.length := by
      have hinj : ∀ a ∈ Lib.compact (sortI l), ∀ b ∈ Lib.compact (sortI l), stepsN s (l.getD 0 0) a = stepsN s (l.getD 0 0) b → a = b := fun a ha b hb h => by
        have h1 := hin a ((distinct_mem l a).1 ha)
        have h2 := hin b ((distinct_mem l b).1 hb)
        unfold stepsN at h
        split at h <;> split at h <;> omega
      have hnd : ((Lib.compact (sortI l)).map (stepsN s (l.getD 0 0))).Nodup := by
        rw [List.Nodup, List.pairwise_map]
        exact (List.Pairwise.imp_of_mem (fun {a b} ha hb h e => h (hinj a ha b hb e)) (distinct_nodup l))
      have e1 := nodup_le _ C hnd (fun z hz => by
        obtain ⟨n, hn, rfl⟩ := List.mem_map.1 hz
        exact hto n ((distinct_mem l n).1 hn))
      have e2 := nodup_le C ((Lib.compact (sortI l)).map (stepsN s (l.getD 0 0))) hdn (fun z hz => by
        obtain ⟨n, hn, rfl⟩ := List.mem_map.1 ((hdm z).1 hz)
        exact List.mem_map.2 ⟨n, (distinct_mem l n).2 hn, rfl⟩)
      rw [List.length_map] at e1 e2
      omega
    rw [hcount, hgc]
    cases C with
    | nil => exact absurd (hto _ h0m) List.not_mem_nil
    | cons x r =>
      have hcov := glue_cover s (by omega) (l.getD 0 0 - s.first) (by omega) x r hlt (fun z hz => by have := hC z hz; omega)
      rw [hcov]
      have hx0 : x = 0 := by
        have h1 := (hC x (by simp)).1
        have h2 := hto _ h0m
        have e : stepsN s (l.getD 0 0) (l.getD 0 0) = 0 := by unfold stepsN; rw [if_pos (Int.le_refl _)]; omega
        rw [e] at h2
        rcases List.mem_cons.1 h2 with h2 | h2
        · exact h2.symm
        · have := (List.pairwise_cons.1 hlt).1 0 h2; omega
      obtain ⟨s1, s2, s3⟩ := spread_ge s (l.getD 0 0) l 0
      have hlastm : (x :: r).getLast (by simp) ∈ (x :: r) := List.getLast_mem _
      have hmax : ∀ z ∈ (x :: r), z ≤ (x :: r).getLast (by simp) := fun z hz => by
        obtain ⟨i, hi, rfl⟩ := List.getElem_of_mem hz
        rw [List.getLast_eq_getElem]
        rcases Nat.lt_or_ge i ((x :: r).length - 1) with h | h
        · have := List.pairwise_iff_getElem.1 hlt i ((x :: r).length - 1) hi (by omega) h
          omega
        · have : i = (x :: r).length - 1 := by omega
          subst this; exact Int.le_refl _
      have hle : (x :: r).getLast (by simp) ≤ spreadN s (l.getD 0 0) l := by
        obtain ⟨n, hn, he⟩ := List.mem_map.1 ((hdm _).1 hlastm)
        have := s2 n hn
        unfold spreadN
        omega
      have hge : spreadN s (l.getD 0 0) l ≤ (x :: r).getLast (by simp) := by
        unfold spreadN
        rcases s3 with s3 | ⟨z, hz, s3⟩
        · rw [s3]
          have := hmax x (by simp)
          omega
        · rw [s3]
          exact hmax _ (hto z hz)
      omega
end Go.Proofs.Ytdopillligfdiaa
