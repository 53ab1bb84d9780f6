/- Partners in order: looking one up by halves. -/
import Derived.Test.YtdopillligfdiaaDoorNP
namespace Go.Proofs.YtdopillligfdiaaDoor
set_option linter.unusedSimpArgs false
set_option linter.unusedVariables false
open Go.RowKit

theorem bl_nil (a : List UInt8) : Op.bytesLess a [] = false := by cases a <;> rfl
theorem bl_cons (x y : UInt8) (a b : List UInt8) : Op.bytesLess (x :: a) (y :: b) = true ↔ x.toNat < y.toNat ∨ (x = y ∧ Op.bytesLess a b = true) := by
  simp only [Op.bytesLess, Bool.or_eq_true, decide_eq_true_eq, Bool.and_eq_true, beq_iff_eq]
  exact Iff.rfl
theorem bl_trans : ∀ {a b c : List UInt8}, Op.bytesLess a b = true → Op.bytesLess b c = true → Op.bytesLess a c = true
  | _, b, [], _, h => by rw [bl_nil] at h; cases h
  | _, [], _ :: _, h, _ => by rw [bl_nil] at h; cases h
  | [], _ :: _, _ :: _, _, _ => rfl
  | x :: a, y :: b, z :: c, h, k => by
    rw [bl_cons] at *
    rcases h with h | ⟨rfl, h⟩
    · rcases k with k | ⟨rfl, k⟩
      · left; omega
      · left; exact h
    · rcases k with k | ⟨rfl, k⟩
      · left; exact k
      · exact .inr ⟨rfl, bl_trans h k⟩
theorem bl_irrefl : ∀ a : List UInt8, Op.bytesLess a a = false
  | [] => rfl
  | x :: a => by
    rw [Bool.eq_false_iff]
    intro h
    rw [bl_cons] at h
    rcases h with h | ⟨_, h⟩
    · omega
    · rw [bl_irrefl a] at h; cases h
theorem bl_total : ∀ a b : List UInt8, Op.bytesLess a b = true ∨ a = b ∨ Op.bytesLess b a = true
  | [], [] => .inr (.inl rfl)
  | [], _ :: _ => .inl rfl
  | _ :: _, [] => .inr (.inr rfl)
  | x :: a, y :: b => by
    rw [bl_cons, bl_cons]
    rcases Nat.lt_trichotomy x.toNat y.toNat with h | h | h
    · exact .inl (.inl h)
    · have hxy : x = y := UInt8.toNat_inj.1 h
      subst hxy
      rcases bl_total a b with h | rfl | h
      · exact .inl (.inr ⟨rfl, h⟩)
      · exact .inr (.inl rfl)
      · exact .inr (.inr (.inr ⟨rfl, h⟩))
    · exact .inr (.inr (.inl h))
theorem notAfter_lt {q n : Str} (h : notAfter (some q) n = false) : Op.bytesLess q n = true := by
  simp only [notAfter, Bool.or_eq_false_iff, beq_eq_false_iff_ne] at h
  rcases bl_total q n with h1 | h1 | h1
  · exact h1
  · exact absurd h1.symm h.2
  · rw [h1] at h; cases h.1
/-- The names rise. -/
def Rising (l : List Par) : Prop := l.Pairwise fun p q => Op.bytesLess p.name q.name = true
theorem parsN_rising : ∀ {l : List Par} {seen : List Adr} {prev : Option Str}, parsN seen prev l = 0 → Rising l ∧ ∀ q, prev = some q → ∀ p ∈ l, Op.bytesLess q p.name = true
  | [], _, _, _ => ⟨.nil, fun q _ p hp => by cases hp⟩
  | p :: r, seen, prev, h => by
    unfold parsN at h
    split at h
    · cases h
    · split at h
      · cases h
      · rename_i h1 h2
        split at h
        · cases h
        · split at h
          · rename_i h3 h4; exact absurd h h4
          · obtain ⟨k1, k2⟩ := parsN_rising h
            have k3 := k2 p.name rfl
            refine ⟨.cons k3 k1, fun q hq x hx => ?_⟩
            subst hq
            have h5 := notAfter_lt (by simpa using h2)
            rcases List.mem_cons.1 hx with rfl | hx
            · exact h5
            · exact bl_trans h5 (k3 x hx)
theorem partnersN_ok {l : List Par} (h : partnersN l = 0) : l.length ≤ 200 ∧ Rising l := by
  unfold partnersN at h
  split at h
  · cases h
  · exact ⟨by omega, (parsN_rising h).1⟩
def cmpN (a b : Str) : Int := if Op.bytesLess a b = true then -1 else if a = b then 0 else 1
/-- What is known between the halves. -/
structure Halves (l : List Par) (n : Str) (i j : Nat) : Prop where
  le : i ≤ j
  lj : j ≤ l.length
  low : ∀ k p, k < i → l[k]? = some p → Op.bytesLess p.name n = true
  high : ∀ k p, j ≤ k → l[k]? = some p → Op.bytesLess p.name n = false
theorem Halves.start (l : List Par) (n : Str) : Halves l n 0 l.length :=
  ⟨Nat.zero_le _, Nat.le_refl _, fun k p h => by omega, fun k p h hp => by have := (List.getElem?_eq_some_iff.1 hp).1; omega⟩
theorem rising_at {l : List Par} (hr : Rising l) {i j : Nat} {p q : Par} (hi : l[i]? = some p) (hj : l[j]? = some q) (h : i < j) : Op.bytesLess p.name q.name = true := by
  obtain ⟨h1, rfl⟩ := List.getElem?_eq_some_iff.1 hi
  obtain ⟨h2, rfl⟩ := List.getElem?_eq_some_iff.1 hj
  exact List.pairwise_iff_getElem.1 hr i j h1 h2 h
theorem Halves.right {l : List Par} {n : Str} {i j h : Nat} {p : Par} (hr : Rising l) (H : Halves l n i j) (hi : i ≤ h) (hj : h < j) (hp : l[h]? = some p) (hc : Op.bytesLess p.name n = true) : Halves l n (h + 1) j := by
  refine ⟨by omega, H.lj, fun k q hk hq => ?_, H.high⟩
  rcases Nat.lt_or_ge k h with h1 | h1
  · exact bl_trans (rising_at hr hq hp h1) hc
  · have : k = h := by omega
    subst this
    rw [hp] at hq
    cases hq
    exact hc
theorem Halves.left {l : List Par} {n : Str} {i j h : Nat} {p : Par} (hr : Rising l) (H : Halves l n i j) (hi : i ≤ h) (hj : h < j) (hp : l[h]? = some p) (hc : Op.bytesLess p.name n = false) : Halves l n i h := by
  refine ⟨hi, by have := H.lj; omega, H.low, fun k q hk hq => ?_⟩
  rcases Nat.lt_or_ge h k with h1 | h1
  · rw [Bool.eq_false_iff]
    intro h2
    have := bl_trans (rising_at hr hp hq h1) h2
    rw [hc] at this
    cases this
  · have : k = h := by omega
    subst this
    rw [hp] at hq
    cases hq
    exact hc
theorem Halves.some {l : List Par} {n : Str} {i : Nat} {p : Par} (hr : Rising l) (H : Halves l n i i) (hp : l[i]? = some p) : isPartnerN l n = decide (p.name = n) := by
  by_cases h : p.name = n
  · rw [decide_eq_true h]
    exact List.any_eq_true.2 ⟨p, List.mem_of_getElem? hp, by simpa using h⟩
  · rw [decide_eq_false h, isPartnerN, List.any_eq_false]
    intro q hq hqn
    have hqn : q.name = n := by simpa using hqn
    obtain ⟨k, hk, rfl⟩ := List.mem_iff_getElem.1 hq
    have hk' := List.getElem?_eq_getElem hk
    rcases Nat.lt_trichotomy k i with h1 | h1 | h1
    · have := H.low k _ h1 hk'
      rw [hqn, bl_irrefl] at this
      cases this
    · subst h1
      rw [hk'] at hp
      cases hp
      exact h hqn
    · have h2 := rising_at hr hp hk' h1
      rw [hqn, H.high i p (Nat.le_refl _) hp] at h2
      cases h2
theorem Halves.none {l : List Par} {n : Str} {i : Nat} (H : Halves l n i i) (hi : l.length ≤ i) : isPartnerN l n = false := by
  rw [isPartnerN, List.any_eq_false]
  intro q hq hqn
  have hqn : q.name = n := by simpa using hqn
  obtain ⟨k, hk, rfl⟩ := List.mem_iff_getElem.1 hq
  have := H.low k _ (by omega) (List.getElem?_eq_getElem hk)
  rw [hqn, bl_irrefl] at this
  cases this
end Go.Proofs.YtdopillligfdiaaDoor
