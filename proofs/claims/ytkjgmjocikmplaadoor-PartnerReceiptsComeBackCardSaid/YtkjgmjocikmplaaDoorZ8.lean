/- Digests, seals, receipts: plain definitions. -/
import Derived.Test.YtkjgmjocikmplaaDoorZ5
import Derived.Test.YtkjgmjocikmplaaDoorZ6
import Derived.Test.YtkjgmjocikmplaaDoorZ7
import Derived.Lib.ItoaNum
import Derived.Lib.Atoi
import Derived.Lib.Repeat
namespace Go.Proofs.YtkjgmjocikmplaaDoor
set_option linter.unusedSimpArgs false
set_option linter.unusedVariables false
open Go.RowKit

def hstep (h : Int) (x : UInt8) : Int := IntKind.u64.wrap (bitsI .xor .u64 h x.toNat * 1099511628211)
def fnv (s : List UInt8) : Int := s.foldl hstep 14695981039346656037
theorem wrap_bd (x : Int) : 0 ≤ IntKind.u64.wrap x ∧ IntKind.u64.wrap x < 18446744073709551616 := by
  rw [IntKind.wrap_u64]
  omega
theorem fnv_bd (s : List UInt8) : 0 ≤ fnv s ∧ fnv s < 18446744073709551616 := by
  have key : ∀ (s : List UInt8) (h : Int), 0 ≤ h ∧ h < 18446744073709551616 → 0 ≤ s.foldl hstep h ∧ s.foldl hstep h < 18446744073709551616 := by
    intro s
    induction s with
    | nil => exact fun h hh => hh
    | cons a s ih => exact fun h _ => ih _ (wrap_bd _)
  exact key s _ (by omega)
theorem fnv_snoc (s : List UInt8) (x : UInt8) : fnv (s ++ [x]) = hstep (fnv s) x := by simp [fnv]
theorem fnv_take {s : List UInt8} {k : Nat} {x : UInt8} (h : s[k]? = some x) : fnv (s.take (k + 1)) = hstep (fnv (s.take k)) x := by
  obtain ⟨hlt, rfl⟩ := List.getElem?_eq_some_iff.1 h
  rw [List.take_succ_eq_append_getElem hlt, fnv_snoc]
def digestN (s : List UInt8) : List UInt8 := hexN 16 (fnv s).toNat
theorem digest_len (s : List UInt8) : (digestN s).length = 16 := hexN_len 16 _
theorem digest_fmt (s : List UInt8) : (fmt16 (fnv s).toNat).length ≤ 16 ∧ List.replicate (16 - (fmt16 (fnv s).toNat).length) 48 ++ fmt16 (fnv s).toNat = digestN s := by
  have h := fnv_bd s
  have h2 : (fnv s).toNat < 16 ^ (15 + 1) := by
    simp only [Nat.reduceAdd, Nat.reducePow]
    omega
  exact ⟨(fmt16_len 15 _ h2).1, fmt16_pad 15 _ h2⟩
theorem repeat_zero : ∀ c, Lib.repeatL [48] c = List.replicate c 48
  | 0 => rfl
  | c + 1 => by rw [Lib.repeatL, repeat_zero c]; rfl
def sealN (secret text : List UInt8) : List UInt8 := digestN (secret ++ digestN (secret ++ text))
def secretN (secret : List UInt8) : Int := if (decide (secret.length < 1) || decide (100 < secret.length)) = true then 1 else 0
def hexByte (c : UInt8) : Bool := (decide (48 ≤ c.toNat) && decide (c.toNat ≤ 57)) || (decide (97 ≤ c.toNat) && decide (c.toNat ≤ 102))
def isDig (s : List UInt8) : Bool := decide (s.length = 16) && s.all hexByte
structure Prf where
  number : Int
  digest : List UInt8
  time : Int
abbrev Prf.d (r : Prf) : D := .agg [.int .i64 r.number, .str r.digest, .int .i64 r.time]
def proofN (r : Prf) : Int := if (decide (r.number < 0) || decide (999999999999999 < r.number)) = true then 1 else if isDig r.digest = false then 3 else if (decide (r.time < 0) || decide (1000000000000000 < r.time)) = true then 1 else 0
def receiptN (r : Prf) : List UInt8 := [114, 101, 99, 101, 105, 112, 116, 32] ++ Lib.itoa r.number ++ [32] ++ r.digest ++ [32] ++ Lib.itoa r.time
def textN (secret : List UInt8) (r : Prf) : List UInt8 × Int :=
  if secretN secret ≠ 0 then ([], secretN secret) else if proofN r ≠ 0 then ([], proofN r) else (receiptN r ++ [32] ++ sealN secret (receiptN r), 0)
theorem secretN_bd (s : List UInt8) : (secretN s = 0 ∧ 1 ≤ s.length ∧ s.length ≤ 100) ∨ (secretN s = 1 ∧ (s.length < 1 ∨ 100 < s.length)) := by
  unfold secretN
  split <;> rename_i h
  · simp only [Bool.or_eq_true, decide_eq_true_eq] at h
    exact .inr ⟨rfl, h⟩
  · simp only [Bool.or_eq_true, decide_eq_true_eq] at h
    exact .inl ⟨rfl, by omega, by omega⟩
theorem proofN_ok {r : Prf} (h : proofN r = 0) : 0 ≤ r.number ∧ r.number ≤ 999999999999999 ∧ 0 ≤ r.time ∧ r.time ≤ 1000000000000000 ∧ r.digest.length = 16 := by
  unfold proofN at h
  split at h
  · cases h
  · rename_i h1
    split at h
    · cases h
    · rename_i h2
      split at h
      · cases h
      · rename_i h3
        simp only [Bool.or_eq_true, decide_eq_true_eq, not_or] at h1 h3
        simp only [Bool.not_eq_false, isDig, Bool.and_eq_true, decide_eq_true_eq] at h2
        exact ⟨by omega, by omega, by omega, by omega, h2.1⟩
/-- How long a number's digits are. -/
theorem dec_len : ∀ (k u : Nat), u < 10 ^ (k + 1) → (Lib.decDigits u).length ≤ k + 1
  | 0, u, h => by
    rw [Lib.decDigits, dif_pos (by simpa using h)]
    simp
  | k + 1, u, h => by
    rw [Lib.decDigits]
    split
    · simp
    · have := dec_len k (u / 10) (by rw [Nat.pow_succ] at h; omega)
      simp only [List.length_append, List.length_cons, List.length_nil]
      omega
theorem itoa_len (n : Int) (h0 : 0 ≤ n) (h : n < 100000000000000000) : (Lib.itoa n).length ≤ 17 := by
  unfold Lib.itoa
  rw [if_neg (by omega)]
  exact dec_len 16 _ (by omega)
def hexTxt : List UInt8 := [48, 49, 50, 51, 52, 53, 54, 55, 56, 57, 97, 98, 99, 100, 101, 102]
/-- Numbers without a needless 0, of at most sixteen digits. -/
def digByte (c : UInt8) : Bool := decide (48 ≤ c.toNat) && decide (c.toNat ≤ 57)
def valN (s : List UInt8) : Int := s.foldl (fun n c => 10 * n + (c.toNat - 48)) 0
def headZero (s : List UInt8) : Bool := decide (1 < s.length) && decide ((s.getD (Int.toNat 0) 0).toNat = 48)
def canonB (s : List UInt8) : Bool := decide (1 ≤ s.length) && decide (s.length ≤ 16) && !headZero s && s.all digByte
def numN (s : List UInt8) : Int × Bool := if canonB s = true then (valN s, true) else (0, false)
theorem valN_snoc (s : List UInt8) (x : UInt8) : valN (s ++ [x]) = 10 * valN s + (x.toNat - 48) := by simp [valN]
theorem valN_bd {s : List UInt8} (h : s.all digByte = true) : 0 ≤ valN s ∧ valN s < 10 ^ s.length := by
  have key : ∀ (r : List UInt8), r.reverse.all digByte = true → 0 ≤ valN r.reverse ∧ valN r.reverse < 10 ^ r.length := by
    intro r
    induction r with
    | nil => exact fun _ => by simp [valN]
    | cons x r ih =>
      intro h
      rw [List.reverse_cons, List.all_append, Bool.and_eq_true] at h
      obtain ⟨i1, i2⟩ := ih h.1
      have hx := h.2
      simp only [List.all_cons, List.all_nil, Bool.and_true, digByte, Bool.and_eq_true, decide_eq_true_eq] at hx
      rw [List.reverse_cons, valN_snoc, List.length_cons, Int.pow_succ]
      constructor <;> omega
  have := key s.reverse (by rw [List.reverse_reverse]; exact h)
  rwa [List.reverse_reverse, List.length_reverse] at this
theorem valN_le {s : List UInt8} (h : s.all digByte = true) (hl : s.length ≤ 16) : 0 ≤ valN s ∧ valN s ≤ 10000000000000000 := by
  obtain ⟨h1, h2⟩ := valN_bd h
  have h3 : 10 ^ s.length ≤ 10 ^ 16 := Nat.pow_le_pow_right (by decide) hl
  have h4 : (10 : Int) ^ s.length ≤ ((10 ^ 16 : Nat) : Int) := by
    have := Int.ofNat_le.2 h3
    simpa using this
  have e : ((10 ^ 16 : Nat) : Int) = 10000000000000000 := by decide
  omega
theorem dec_val : ∀ (l : List UInt8) (acc : Nat), l.all digByte = true → ∃ n : Nat, Lib.decFrom acc l = some n ∧ (n : Int) = l.foldl (fun (n : Int) c => 10 * n + (c.toNat - 48)) acc
  | [], acc, _ => ⟨acc, rfl, rfl⟩
  | c :: l, acc, h => by
    simp only [List.all_cons, Bool.and_eq_true] at h
    have hc := h.1
    simp only [digByte, Bool.and_eq_true, decide_eq_true_eq] at hc
    obtain ⟨n, h1, h2⟩ := dec_val l (10 * acc + (c.toNat - 48)) h.2
    refine ⟨n, ?_, ?_⟩
    · have hd : Lib.digitVal c = some (c.toNat - 48) := by
        unfold Lib.digitVal
        simp [UInt8.le_iff_toNat_le, hc]
      rw [Lib.decFrom, hd]
      have e : acc * 10 + (c.toNat - 48) = 10 * acc + (c.toNat - 48) := by omega
      simp only [e]
      exact h1
    · rw [h2, List.foldl_cons]
      congr 1
      omega
theorem atoi_val {s : List UInt8} (hl : 1 ≤ s.length) (h : s.all digByte = true) : Lib.atoi s = some (valN s) := by
  cases s with
  | nil => simp at hl
  | cons b r =>
    have hb := h
    simp only [List.all_cons, Bool.and_eq_true] at hb
    have hb1 := hb.1
    simp only [digByte, Bool.and_eq_true, decide_eq_true_eq] at hb1
    have h45 : (b == 45) = false := by
      rw [beq_eq_false_iff_ne]
      intro e
      subst e
      simp at hb1
    have h43 : (b == 43) = false := by
      rw [beq_eq_false_iff_ne]
      intro e
      subst e
      simp at hb1
    obtain ⟨n, h1, h2⟩ := dec_val (b :: r) 0 h
    unfold Lib.atoi
    simp only [h45, h43, Bool.false_eq_true, if_false, Lib.decNat, List.isEmpty_cons, h1, Option.map_some]
    rw [h2]
    rfl
def noGap (l : List (List UInt8)) : Bool := l.all fun x => !(x == [])
abbrev zP : Prf := ⟨0, [], 0⟩
def read5 (secret text w0 w1 w2 w3 w4 : List UInt8) : Prf × Int :=
  if (w0 == [114, 101, 99, 101, 105, 112, 116] && isDig w2 && isDig w4) = false then (zP, 10)
  else if ((numN w1).2 && (numN w3).2) = false then (zP, 10)
  else if 999999999999999 < (numN w1).1 ∨ 1000000000000000 < (numN w3).1 then (zP, 1)
  else if (textN secret ⟨(numN w1).1, w2, (numN w3).1⟩).1 ≠ text then (zP, 15)
  else (⟨(numN w1).1, w2, (numN w3).1⟩, 0)
def readW (secret text : List UInt8) : List (List UInt8) → Prf × Int
  | [w0, w1, w2, w3, w4] => read5 secret text w0 w1 w2 w3 w4
  | _ => (zP, 10)
def readN (secret text : List UInt8) : Prf × Int := if secretN secret ≠ 0 then (zP, secretN secret) else readW secret text (words text)
theorem five {α : Type} {l : List α} (h : l.length = 5) : ∃ a b c d e, l = [a, b, c, d, e] := by
  match l, h with
  | [a, b, c, d, e], _ => exact ⟨a, b, c, d, e, rfl⟩
theorem readN_short {s t : List UInt8} (h0 : secretN s = 0) (h : (words t).length ≠ 5) : readN s t = (zP, 10) := by
  unfold readN
  rw [if_neg (by simpa using h0)]
  unfold readW
  split
  · rename_i e
    rw [e] at h
    exact absurd rfl h
  · rfl
/-- A number without a needless 0 is written as it was read. -/
theorem canon_itoa : ∀ (n : Nat) (w : List UInt8), w.length = n → 1 ≤ w.length → w.all digByte = true → headZero w = false → Lib.decDigits (valN w).toNat = w
  | 0, w, hn, h1, _, _ => by omega
  | n + 1, w, hn, h1, hd, hz => by
    rcases List.eq_nil_or_concat w with rfl | ⟨l, c, rfl⟩
    · simp at h1
    · rw [List.concat_eq_append] at hn hd hz ⊢
      rw [List.all_append, Bool.and_eq_true] at hd
      have hc := hd.2
      simp only [List.all_cons, List.all_nil, Bool.and_true, digByte, Bool.and_eq_true, decide_eq_true_eq] at hc
      have hcc : UInt8.ofNat (48 + (c.toNat - 48)) = c := by
        rw [show 48 + (c.toNat - 48) = c.toNat by omega]
        exact UInt8.ofNat_toNat
      rw [valN_snoc]
      cases l with
      | nil =>
        have e : (10 * valN [] + ((c.toNat : Int) - 48)).toNat = c.toNat - 48 := by simp [valN]; omega
        rw [e, Lib.decDigits, dif_pos (by omega), hcc]
        rfl
      | cons a l =>
        have hz1 : a.toNat ≠ 48 := by
          unfold headZero at hz
          simp only [Bool.and_eq_false_iff, decide_eq_false_iff_not] at hz
          rcases hz with hz | hz
          · simp at hz
          · simpa using hz
        have hv := valN_bd hd.1
        have ih := canon_itoa n (a :: l) (by simpa using hn) (by simp) hd.1 (by
          unfold headZero
          simp only [Bool.and_eq_false_iff, decide_eq_false_iff_not]
          exact .inr (by simpa using hz1))
        have hpos : 1 ≤ valN (a :: l) := by
          have := Lib.decDigits
          by_cases hp : valN (a :: l) = 0
          · rw [hp] at ih
            exfalso
            rw [show (0 : Int).toNat = 0 from rfl, Lib.decDigits, dif_pos (by decide)] at ih
            have h2 := List.cons.inj ih
            apply hz1
            rw [← h2.1]
            rfl
          · omega
        have e : (10 * valN (a :: l) + ((c.toNat : Int) - 48)).toNat = 10 * (valN (a :: l)).toNat + (c.toNat - 48) := by omega
        rw [e, Lib.decDigits, dif_neg (by omega), show (10 * (valN (a :: l)).toNat + (c.toNat - 48)) / 10 = (valN (a :: l)).toNat by omega, ih, show (10 * (valN (a :: l)).toNat + (c.toNat - 48)) % 10 = c.toNat - 48 by omega, hcc]
theorem numN_back {w : List UInt8} (h : (numN w).2 = true) : 0 ≤ (numN w).1 ∧ (numN w).1 ≤ 10000000000000000 ∧ Lib.itoa (numN w).1 = w := by
  unfold numN at h ⊢
  split at h
  · rename_i hc
    rw [if_pos hc]
    unfold canonB at hc
    simp only [Bool.and_eq_true, decide_eq_true_eq, Bool.not_eq_true'] at hc
    obtain ⟨⟨⟨h1, h2⟩, h3⟩, h4⟩ := hc
    have hv := valN_le h4 h2
    refine ⟨hv.1, hv.2, ?_⟩
    unfold Lib.itoa
    rw [if_neg (by simp only; omega)]
    exact canon_itoa _ _ rfl h1 h4 h3
  · cases h
theorem readW_gap {s t w0 w1 w2 w3 w4 : List UInt8} (h : noGap [w0, w1, w2, w3, w4] = false) : read5 s t w0 w1 w2 w3 w4 = (zP, 10) := by
  unfold read5
  cases hq : (w0 == [114, 101, 99, 101, 105, 112, 116] && isDig w2 && isDig w4)
  · rfl
  · rw [if_neg (by decide)]
    simp only [Bool.and_eq_true, beq_iff_eq] at hq
    obtain ⟨⟨h0, h2⟩, h4⟩ := hq
    have n2 : w2 ≠ [] := fun e => by subst e; simp [isDig] at h2
    have n4 : w4 ≠ [] := fun e => by subst e; simp [isDig] at h4
    have h13 : w1 = [] ∨ w3 = [] := by
      by_cases e1 : w1 = []
      · exact .inl e1
      · by_cases e3 : w3 = []
        · exact .inr e3
        · exfalso
          simp [noGap, h0, n2, n4, e1, e3] at h
    have : ((numN w1).2 && (numN w3).2) = false := by
      rcases h13 with e | e
      · subst e
        rfl
      · subst e
        rw [show (numN []).2 = false from rfl, Bool.and_false]
    rw [if_pos this]
abbrev litR : List UInt8 := [114, 101, 99, 101, 105, 112, 116]
theorem read5_no {s t w1 w2 w3 w4 : List UInt8} (a2 : isDig w2 = true) (a4 : isDig w4 = true) (h : ((numN w1).2 && (numN w3).2) = false) : read5 s t litR w1 w2 w3 w4 = (zP, 10) := by
  unfold read5
  rw [a2, a4, if_neg (by decide), if_pos h]
theorem proofN_far {n1 n3 : Int} {w2 : List UInt8} (a2 : isDig w2 = true) (h1 : 0 ≤ n1) (h3 : 0 ≤ n3) (hP : 999999999999999 < n1 ∨ 1000000000000000 < n3) : proofN ⟨n1, w2, n3⟩ = 1 := by
  unfold proofN
  split
  · rfl
  · rename_i q
    simp only [Bool.or_eq_true, decide_eq_true_eq, not_or] at q
    rw [if_neg (by simp [a2]), if_pos (by simp; omega)]
theorem proofN_near {n1 n3 : Int} {w2 : List UInt8} (a2 : isDig w2 = true) (h1 : 0 ≤ n1) (h3 : 0 ≤ n3) (hP : ¬ (999999999999999 < n1 ∨ 1000000000000000 < n3)) : proofN ⟨n1, w2, n3⟩ = 0 := by
  unfold proofN
  rw [if_neg (by simp; omega), if_neg (by simp [a2]), if_neg (by simp; omega)]
theorem read5_yes {s t w1 w2 w3 w4 : List UInt8} (hw : words t = [litR, w1, w2, w3, w4]) (h0 : secretN s = 0) (a2 : isDig w2 = true) (a4 : isDig w4 = true) (h1 : (numN w1).2 = true) (h3 : (numN w3).2 = true) : read5 s t litR w1 w2 w3 w4 =
    if 999999999999999 < (numN w1).1 ∨ 1000000000000000 < (numN w3).1 then (zP, 1) else if sealN s (receiptN ⟨(numN w1).1, w2, (numN w3).1⟩) = w4 then (⟨(numN w1).1, w2, (numN w3).1⟩, 0) else (zP, 15) := by
  unfold read5
  rw [a2, a4, if_neg (by decide), h1, h3, if_neg (by decide)]
  by_cases hP : 999999999999999 < (numN w1).1 ∨ 1000000000000000 < (numN w3).1
  · rw [if_pos hP, if_pos hP]
  · obtain ⟨p1, p2, p3⟩ := numN_back h1
    obtain ⟨q1, q2, q3⟩ := numN_back h3
    have hp := proofN_near a2 p1 q1 hP
    rw [if_neg hP, if_neg hP]
    have ht : t = joinW [litR, w1, w2, w3, w4] := by rw [← hw, join_words]
    have hx : (textN s ⟨(numN w1).1, w2, (numN w3).1⟩).1 = receiptN ⟨(numN w1).1, w2, (numN w3).1⟩ ++ [32] ++ sealN s (receiptN ⟨(numN w1).1, w2, (numN w3).1⟩) := by
      unfold textN
      rw [if_neg (by simpa using h0), if_neg (by simpa using hp)]
    rw [hx]
    generalize hs : sealN s (receiptN ⟨(numN w1).1, w2, (numN w3).1⟩) = u
    have hiff : receiptN ⟨(numN w1).1, w2, (numN w3).1⟩ ++ [32] ++ u = t ↔ u = w4 := by
      rw [ht]
      unfold receiptN
      simp only [p3, q3, joinW, litR, List.append_assoc, List.cons_append, List.nil_append, List.cons.injEq, true_and, List.append_cancel_left_eq]
    by_cases hu : u = w4
    · rw [if_pos hu, if_neg (by simpa using hiff.2 hu)]
    · rw [if_neg hu, if_pos (fun e => hu (hiff.1 e))]
end Go.Proofs.YtkjgmjocikmplaaDoor
