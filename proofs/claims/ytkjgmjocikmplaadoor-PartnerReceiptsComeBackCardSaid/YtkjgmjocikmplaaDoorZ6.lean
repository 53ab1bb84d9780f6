/- Digests: sixteen digits, by halves and by padding: plain. -/
import Derived.Test.YtkjgmjocikmplaaDoorZ4
namespace Go.Proofs.YtkjgmjocikmplaaDoor
set_option linter.unusedSimpArgs false
set_option linter.unusedVariables false
open Go.RowKit

def hexD (n : Nat) : UInt8 := if n < 10 then UInt8.ofNat (48 + n) else UInt8.ofNat (87 + n)
def fmt16 (n : Nat) : List UInt8 := if _h : n < 16 then [hexD n] else fmt16 (n / 16) ++ [hexD (n % 16)]
termination_by n
decreasing_by omega
def hexN : Nat → Nat → List UInt8
  | 0, _ => []
  | k + 1, n => hexN k (n / 16) ++ [hexD (n % 16)]
theorem hexN_len : ∀ (k n : Nat), (hexN k n).length = k
  | 0, _ => rfl
  | k + 1, n => by simp [hexN, hexN_len k]
theorem hexN_zero : ∀ k, hexN k 0 = List.replicate k 48
  | 0 => rfl
  | k + 1 => by
    rw [hexN, Nat.zero_div, hexN_zero k, Nat.zero_mod, List.replicate_succ']
    rfl
theorem fmt16_len : ∀ (k n : Nat), n < 16 ^ (k + 1) → (fmt16 n).length ≤ k + 1 ∧ 1 ≤ (fmt16 n).length
  | 0, n, h => by
    rw [fmt16, dif_pos (by simpa using h)]
    simp
  | k + 1, n, h => by
    by_cases h0 : n < 16
    · rw [fmt16, dif_pos h0]; simp
    · rw [fmt16, dif_neg h0]
      have := fmt16_len k (n / 16) (by rw [Nat.pow_succ] at h; omega)
      simp only [List.length_append, List.length_cons, List.length_nil]
      omega
theorem fmt16_pad : ∀ (k n : Nat), n < 16 ^ (k + 1) → List.replicate (k + 1 - (fmt16 n).length) 48 ++ fmt16 n = hexN (k + 1) n
  | 0, n, h => by
    have h1 : n < 16 := by simpa using h
    rw [fmt16, dif_pos h1, hexN, Nat.mod_eq_of_lt h1]
    rfl
  | k + 1, n, h => by
    by_cases h0 : n < 16
    · rw [fmt16, dif_pos h0, hexN, Nat.div_eq_of_lt h0, hexN_zero, Nat.mod_eq_of_lt h0]
      simp
    · rw [fmt16, dif_neg h0, hexN]
      have hl := fmt16_len k (n / 16) (by rw [Nat.pow_succ] at h; omega)
      rw [← fmt16_pad k (n / 16) (by rw [Nat.pow_succ] at h; omega), List.append_assoc]
      congr 2
      simp
end Go.Proofs.YtkjgmjocikmplaaDoor
