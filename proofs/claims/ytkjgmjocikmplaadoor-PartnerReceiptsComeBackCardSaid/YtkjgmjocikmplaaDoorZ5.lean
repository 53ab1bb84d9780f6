/- Words between blanks: plain. -/
import Derived.Test.YtkjgmjocikmplaaDoorZ4
import Derived.Lib.SplitLaws
import Derived.Lib.IndexBytes
import Derived.Lib.IndexLaws
namespace Go.Proofs.YtkjgmjocikmplaaDoor
set_option linter.unusedSimpArgs false
set_option linter.unusedVariables false
open Go.RowKit

def words : List UInt8 → List (List UInt8)
  | [] => [[]]
  | b :: r => if b = 32 then [] :: words r else match words r with
    | [] => [[b]]
    | h :: t => (b :: h) :: t
def joinW : List (List UInt8) → List UInt8
  | [] => []
  | [a] => a
  | a :: b :: t => a ++ 32 :: joinW (b :: t)
theorem words_none : ∀ {s : List UInt8}, (32 : UInt8) ∉ s → words s = [s]
  | [], _ => rfl
  | b :: r, h => by
    simp only [List.mem_cons, not_or] at h
    rw [words, if_neg (Ne.symm h.1), words_none h.2]
theorem words_app : ∀ {a : List UInt8} (r : List UInt8), (32 : UInt8) ∉ a → words (a ++ 32 :: r) = a :: words r
  | [], r, _ => by rw [List.nil_append, words, if_pos rfl]
  | b :: a, r, h => by
    simp only [List.mem_cons, not_or] at h
    rw [List.cons_append, words, if_neg (Ne.symm h.1), words_app r h.2]
theorem words_ne : ∀ s, words s ≠ []
  | [] => by simp [words]
  | b :: r => by
    rw [words]
    split
    · simp
    · split <;> simp
theorem joinW_cons (a : List UInt8) {l : List (List UInt8)} (h : l ≠ []) : joinW (a :: l) = a ++ 32 :: joinW l := by
  cases l with
  | nil => exact absurd rfl h
  | cons b t => rfl
theorem join_words : ∀ s, joinW (words s) = s
  | [] => rfl
  | b :: r => by
    have ih := join_words r
    rw [words]
    split
    · rename_i h
      rw [joinW_cons _ (words_ne r), ih, h]
      rfl
    · cases hw : words r with
      | nil => exact absurd hw (words_ne r)
      | cons h t =>
        rw [hw] at ih
        simp only
        cases t with
        | nil => simp only [joinW] at ih ⊢; rw [ih]
        | cons c t => simp only [joinW, List.cons_append] at ih ⊢; rw [ih]
theorem words_join : ∀ {l : List (List UInt8)}, l ≠ [] → (∀ w ∈ l, (32 : UInt8) ∉ w) → words (joinW l) = l
  | [], h, _ => absurd rfl h
  | [a], _, h => words_none (h a (by simp))
  | a :: b :: t, _, h => by
    rw [joinW_cons _ (by simp), words_app _ (h a (by simp)), words_join (by simp) fun w hw => h w (by simp [hw])]
theorem cut_at {s : List UInt8} {i : Nat} (h : Lib.indexByte s 32 = i) : (32 : UInt8) ∉ s.take i ∧ s = s.take i ++ 32 :: s.drop (i + 1) := by
  obtain ⟨h1, h2⟩ := Lib.indexByte_some h
  refine ⟨fun hm => ?_, ?_⟩
  · obtain ⟨k, hk⟩ := List.mem_iff_getElem?.1 hm
    rw [List.getElem?_take] at hk
    split at hk
    · rename_i hlt
      exact h2 k hlt hk
    · cases hk
  · obtain ⟨hlt, he⟩ := List.getElem?_eq_some_iff.1 h1
    have := List.drop_eq_getElem_cons hlt
    rw [he] at this
    rw [← this, List.take_append_drop]
theorem splitK_words : ∀ (k : Nat) (s : List UInt8), s.count 32 ≤ k → Lib.splitK [32] 0 k s = words s
  | 0, s, h => by
    rw [Lib.splitK, words_none]
    intro hm
    have := List.count_pos_iff.2 hm
    omega
  | k + 1, s, h => by
    rw [Lib.splitK, Lib.index_one]
    split
    · rename_i he
      rw [words_none]
      intro hm
      obtain ⟨j, hj⟩ := List.mem_iff_getElem?.1 hm
      exact Lib.indexByte_none (beq_iff_eq.1 he) j hj
    · rename_i he
      have hge := Lib.indexByte_ge s 32
      obtain ⟨i, hi⟩ : ∃ i : Nat, Lib.indexByte s 32 = i := ⟨(Lib.indexByte s 32).toNat, by
        have : Lib.indexByte s 32 ≠ -1 := fun e => he (beq_iff_eq.2 e)
        omega⟩
      obtain ⟨h1, h2⟩ := cut_at hi
      rw [hi]
      simp only [Int.toNat_natCast, Nat.add_zero, List.length_cons, List.length_nil, Nat.zero_add]
      rw [splitK_words k (s.drop (i + 1)) (by rw [h2, List.count_append, List.count_cons_self] at h; omega)]
      conv => rhs; rw [h2]
      rw [words_app _ h1]
theorem split_words (s : ByteArray) : (Lib.splitB ⟨#[32]⟩ 0 (Lib.countB s ⟨#[32]⟩) s).map (·.data.toList) = words s.data.toList := by
  rw [Lib.splitB_data]
  exact splitK_words _ _ (by rw [show Lib.countB s ⟨#[32]⟩ = s.data.toList.count 32 from Lib.count_one 32 _]; exact Nat.le_refl _)
theorem words_len : ∀ s : List UInt8, (words s).length ≤ s.length + 1
  | [] => by simp [words]
  | b :: r => by
    have ih := words_len r
    rw [words]
    split
    · simp only [List.length_cons]; omega
    · cases hw : words r with
      | nil => simp
      | cons h t =>
        rw [hw] at ih
        simp only [List.length_cons] at ih ⊢
        omega
theorem join_le : ∀ {l : List (List UInt8)} {w : List UInt8}, w ∈ l → w.length ≤ (joinW l).length
  | [a], w, h => by
    simp at h
    subst h
    exact Nat.le_refl _
  | a :: b :: r, w, h => by
    rcases List.mem_cons.1 h with rfl | h
    · simp [joinW]
    · have := join_le (l := b :: r) h
      simp only [joinW, List.length_append, List.length_cons]
      omega
theorem word_le {s w : List UInt8} (h : w ∈ words s) : w.length ≤ s.length := by
  have := join_le h
  rwa [join_words] at this
end Go.Proofs.YtkjgmjocikmplaaDoor
