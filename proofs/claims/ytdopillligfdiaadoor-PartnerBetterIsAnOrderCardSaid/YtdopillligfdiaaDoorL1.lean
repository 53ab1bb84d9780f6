/- PartnerBetterIsAnOrder: Better is an order of agreements, for every three agreements. -/
import Derived.Test.YtdopillligfdiaaDoorD0
namespace Go.Proofs.YtdopillligfdiaaDoor
set_option linter.unusedSimpArgs false
set_option linter.unusedVariables false
open Go.RowKit

theorem fs_neg : ∀ l : List Int, firstSign (l.map (- ·)) = - firstSign l
  | [] => rfl
  | d :: r => by
    simp only [List.map_cons, firstSign]
    rw [fs_neg r]
    split <;> split <;> (try split) <;> (try split) <;> omega
theorem fs_01 : ∀ l : List Int, firstSign l = -1 ∨ firstSign l = 0 ∨ firstSign l = 1
  | [] => .inr (.inl rfl)
  | d :: r => by
    simp only [firstSign]
    split
    · exact .inl rfl
    · split
      · exact .inr (.inr rfl)
      · exact fs_01 r
theorem fs_add : ∀ x y : List Int, x.length = y.length → firstSign x ≤ 0 → firstSign y ≤ 0 →
    firstSign (List.zipWith (· + ·) x y) < 0 ∨ (firstSign x = 0 ∧ firstSign y = 0 ∧ firstSign (List.zipWith (· + ·) x y) = 0)
  | [], [], _, _, _ => .inr ⟨rfl, rfl, rfl⟩
  | d :: r, e :: s, hl, hx, hy => by
    simp only [List.zipWith_cons_cons, firstSign] at *
    by_cases hd : d < 0
    · rw [if_pos hd] at hx
      by_cases he : e < 0
      · rw [if_pos (by omega : d + e < 0)]; left; omega
      · rw [if_neg he] at hy
        by_cases he0 : 0 < e
        · rw [if_pos he0] at hy; omega
        · rw [if_pos (by omega : d + e < 0)]; left; omega
    · by_cases hd0 : 0 < d
      · rw [if_neg hd, if_pos hd0] at hx; omega
      · by_cases he : e < 0
        · rw [if_pos (by omega : d + e < 0)]; left; omega
        · by_cases he0 : 0 < e
          · rw [if_neg he, if_pos he0] at hy; omega
          · rw [if_neg hd, if_neg hd0] at hx
            rw [if_neg he, if_neg he0] at hy
            rw [if_neg hd, if_neg hd0, if_neg he, if_neg he0, if_neg (by omega : ¬ d + e < 0), if_neg (by omega : ¬ 0 < d + e)]
            exact fs_add r s (by simpa using hl) hx hy
theorem betterN_neg (a b : Agr) : betterN b a = - betterN a b := by
  unfold betterN
  rw [← fs_neg]
  simp only [List.map_cons, List.map_nil]
  congr 1
  simp only [List.cons.injEq, and_true]
  omega
theorem betterN_01 (a b : Agr) : betterN a b = -1 ∨ betterN a b = 0 ∨ betterN a b = 1 := fs_01 _
theorem betterN_trans (a b c : Agr) (h1 : betterN a b ≤ 0) (h2 : betterN b c ≤ 0) : betterN a c < 0 ∨ (betterN a b = 0 ∧ betterN b c = 0 ∧ betterN a c = 0) := by
  have := fs_add [flagN (!b.msg.isEmpty) - flagN (!a.msg.isEmpty), flagN (!b.ver.isEmpty) - flagN (!a.ver.isEmpty), b.first - a.first, a.last - b.last]
    [flagN (!c.msg.isEmpty) - flagN (!b.msg.isEmpty), flagN (!c.ver.isEmpty) - flagN (!b.ver.isEmpty), c.first - b.first, b.last - c.last] rfl h1 h2
  have e : List.zipWith (· + ·) [flagN (!b.msg.isEmpty) - flagN (!a.msg.isEmpty), flagN (!b.ver.isEmpty) - flagN (!a.ver.isEmpty), b.first - a.first, a.last - b.last]
    [flagN (!c.msg.isEmpty) - flagN (!b.msg.isEmpty), flagN (!c.ver.isEmpty) - flagN (!b.ver.isEmpty), c.first - b.first, b.last - c.last] =
    [flagN (!c.msg.isEmpty) - flagN (!a.msg.isEmpty), flagN (!c.ver.isEmpty) - flagN (!a.ver.isEmpty), c.first - a.first, a.last - c.last] := by
    simp only [List.zipWith_cons_cons, List.zipWith_nil_left, List.cons.injEq, and_true]
    omega
  rw [e] at this
  exact this
theorem BetterN_01 (a b : Agr) : (BetterN a b).1 = -1 ∨ (BetterN a b).1 = 0 ∨ (BetterN a b).1 = 1 := by
  unfold BetterN
  split
  · exact .inr (.inl rfl)
  · split
    · exact .inr (.inl rfl)
    · exact betterN_01 a b
theorem BetterN_ok {a b : Agr} (h : (BetterN a b).2 = 0) : ownFaultN a = 0 ∧ ownFaultN b = 0 ∧ (BetterN a b).1 = betterN a b := by
  unfold BetterN at *
  split at h
  · rename_i h1; exact absurd h h1
  · rename_i h1
    split at h
    · rename_i h2; exact absurd h h2
    · rename_i h2
      rw [if_neg h1, if_neg h2]
      exact ⟨by simpa using h1, by simpa using h2, rfl⟩
theorem BetterN_back {a b : Agr} (h1 : ownFaultN a = 0) (h2 : ownFaultN b = 0) : BetterN a b = (betterN a b, 0) := by simp [BetterN, h1, h2]
theorem law1_plain (a b c : Agr) (h1 : (BetterN a b).2 = 0) (h2 : (BetterN b c).2 = 0) (h3 : (BetterN a c).2 = 0) :
    (BetterN b a).2 = 0 ∧ (BetterN b a).1 = RowKit.wrap64 (0 - (BetterN a b).1) ∧
    ((decide (0 < (BetterN a b).1) || decide (0 < (BetterN b c).1) || decide ((BetterN a c).1 < 0)) || ((BetterN a b).1 == 0 && (BetterN b c).1 == 0 && (BetterN a c).1 == 0)) = true := by
  obtain ⟨i1, i2, i3⟩ := BetterN_ok h1
  obtain ⟨j1, j2, j3⟩ := BetterN_ok h2
  obtain ⟨k1, k2, k3⟩ := BetterN_ok h3
  rw [BetterN_back i2 i1, i3, j3, k3, betterN_neg]
  have h4 := betterN_01 a b
  have h5 := betterN_01 b c
  have h6 := betterN_trans a b c
  refine ⟨rfl, ?_, ?_⟩
  · rw [IntWalk.wrap64_in _ (by omega)]; show -betterN a b = 0 - betterN a b; omega
  · simp only [Bool.or_eq_true, Bool.and_eq_true, decide_eq_true_eq, beq_iff_eq]
    omega
end Go.Proofs.YtdopillligfdiaaDoor
