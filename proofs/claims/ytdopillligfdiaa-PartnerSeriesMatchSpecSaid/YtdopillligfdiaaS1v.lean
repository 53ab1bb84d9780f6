/- Series: what the functions compute (plain). -/
import Derived.Test.YtdopillligfdiaaS0
namespace Go.Proofs.Ytdopillligfdiaa
set_option linter.unusedSimpArgs false
set_option linter.unusedVariables false
open Go.RowKit

def sizeN (s : Ser) : Int := s.last - s.first + 1
def betweenN (s : Ser) (a b : Int) : Int := (b - a + sizeN s) % sizeN s
def stepsN (s : Ser) (a b : Int) : Int := if a ≤ b then b - a else b - a + sizeN s
theorem between_steps (s : Ser) (a b : Int) (ha : s.first ≤ a ∧ a ≤ s.last) (hb : s.first ≤ b ∧ b ≤ s.last) : betweenN s a b = stepsN s a b := by
  unfold betweenN stepsN sizeN
  split
  · have e : b - a + (s.last - s.first + 1) = (b - a) + (s.last - s.first + 1) * 1 := by omega
    rw [e, Int.add_mul_emod_self_left, Int.emod_eq_of_lt (by omega) (by omega)]
  · rw [Int.emod_eq_of_lt (by omega) (by omega)]
theorem steps_bd (s : Ser) (a b : Int) (ha : s.first ≤ a ∧ a ≤ s.last) (hb : s.first ≤ b ∧ b ≤ s.last) : 0 ≤ stepsN s a b ∧ stepsN s a b < sizeN s := by
  unfold stepsN sizeN; split <;> omega
structure Gp where
  fr : Int
  tgt : Int
abbrev Gp.cells (g : Gp) : List Value := [.int .i64 g.fr, .int .i64 g.tgt]
def gapRows (s : Ser) : Nat → Int → Int → List Gp
  | 0, _, _ => []
  | f + 1, a, m => if m ≤ 0 then [] else if s.last - a + 1 < m then ⟨a, s.last⟩ :: gapRows s f s.first (m - (s.last - a + 1)) else [⟨a, a + m - 1⟩]
theorem gapRows_fuel (s : Ser) (hs : s.first ≤ s.last) : ∀ (f g : Nat) (a m : Int), s.first ≤ a → a ≤ s.last → m.toNat ≤ f → m.toNat ≤ g → gapRows s f a m = gapRows s g a m
  | 0, 0, _, _, _, _, _, _ => rfl
  | 0, g + 1, a, m, _, _, h, _ => by
    simp only [gapRows]; rw [if_pos (by omega)]
  | f + 1, 0, a, m, _, _, _, h => by
    simp only [gapRows]; rw [if_pos (by omega)]
  | f + 1, g + 1, a, m, h1, h2, h3, h4 => by
    simp only [gapRows]
    split
    · rfl
    · split
      · rw [gapRows_fuel s hs f g s.first _ (by omega) (by omega) (by omega) (by omega)]
      · rfl
def rowsL (s : Ser) (a m : Int) : List Gp := gapRows s m.toNat a m
theorem rowsL_nil (s : Ser) (a m : Int) (h : m ≤ 0) : rowsL s a m = [] := by
  unfold rowsL
  have : m.toNat = 0 := by omega
  rw [this]; rfl
theorem rowsL_more (s : Ser) (hs : s.first ≤ s.last) (a m : Int) (ha : s.first ≤ a ∧ a ≤ s.last) (h : s.last - a + 1 < m) : rowsL s a m = ⟨a, s.last⟩ :: rowsL s s.first (m - (s.last - a + 1)) := by
  unfold rowsL
  obtain ⟨f, hf⟩ : ∃ f, m.toNat = f + 1 := ⟨m.toNat - 1, by omega⟩
  rw [hf]
  simp only [gapRows]
  rw [if_neg (by omega), if_pos h, gapRows_fuel s hs f _ s.first _ (by omega) (by omega) (by omega) (Nat.le_refl _)]
theorem rowsL_last (s : Ser) (a m : Int) (h0 : 0 < m) (h : m ≤ s.last - a + 1) : rowsL s a m = [⟨a, a + m - 1⟩] := by
  unfold rowsL
  obtain ⟨f, hf⟩ : ∃ f, m.toNat = f + 1 := ⟨m.toNat - 1, by omega⟩
  rw [hf]
  simp only [gapRows]
  rw [if_neg (by omega), if_neg (by omega)]
/-- One step of the loop that writes rows. -/
theorem rowsL_step (s : Ser) (hs : s.first ≤ s.last) (cur up : Int) (h0 : 0 ≤ cur) (h1 : cur < up) :
    rowsL s (s.first + cur % sizeN s) (up - cur) = ⟨s.first + cur % sizeN s, s.first + cur % sizeN s + min (up - cur) (s.last - (s.first + cur % sizeN s) + 1) - 1⟩ ::
      rowsL s (s.first + (cur + min (up - cur) (s.last - (s.first + cur % sizeN s) + 1)) % sizeN s) (up - (cur + min (up - cur) (s.last - (s.first + cur % sizeN s) + 1))) := by
  have hz : 0 < sizeN s := by unfold sizeN; omega
  have hm0 := Int.emod_nonneg cur (show sizeN s ≠ 0 by omega)
  have hm1 := Int.emod_lt_of_pos cur hz
  have hsz : sizeN s = s.last - s.first + 1 := rfl
  by_cases h : s.last - (s.first + cur % sizeN s) + 1 < up - cur
  · have hmin : min (up - cur) (s.last - (s.first + cur % sizeN s) + 1) = s.last - (s.first + cur % sizeN s) + 1 := by omega
    rw [hmin, rowsL_more s hs _ _ (by omega) h]
    have e : (cur + (s.last - (s.first + cur % sizeN s) + 1)) % sizeN s = 0 := by
      have : cur + (s.last - (s.first + cur % sizeN s) + 1) = sizeN s * (cur / sizeN s + 1) := by
        have := Int.mul_ediv_add_emod cur (sizeN s)
        rw [Int.mul_add, Int.mul_one]; omega
      rw [this, Int.mul_emod_right]
    rw [e]
    congr 1
    · congr 1; omega
    · congr 1 <;> omega
  · have hmin : min (up - cur) (s.last - (s.first + cur % sizeN s) + 1) = up - cur := by omega
    rw [hmin, rowsL_last s _ _ (by omega) (by omega), rowsL_nil s _ (up - (cur + (up - cur))) (by omega)]
theorem rowsL_len (s : Ser) (hs : s.first ≤ s.last) (a m : Int) (ha : s.first ≤ a ∧ a ≤ s.last) (hm : m ≤ sizeN s) : (rowsL s a m).length ≤ 2 := by
  have hsz : sizeN s = s.last - s.first + 1 := rfl
  by_cases h : s.last - a + 1 < m
  · rw [rowsL_more s hs a m ha h]
    by_cases h0 : 0 < m - (s.last - a + 1)
    · rw [rowsL_last s _ _ h0 (by omega)]; simp
    · rw [rowsL_nil s _ _ (by omega)]; simp
  · by_cases h0 : 0 < m
    · rw [rowsL_last s _ _ h0 (by omega)]; simp
    · rw [rowsL_nil s _ _ (by omega)]; simp
end Go.Proofs.Ytdopillligfdiaa
