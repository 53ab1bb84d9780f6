/- The data of the chapter on partners, and what its functions compute: plain definitions. -/
import Derived.Test.YtdopillligfdiaaDoorCore
namespace Go.Proofs.YtdopillligfdiaaDoor
set_option linter.unusedSimpArgs false
set_option linter.unusedVariables false
open Go.RowKit

abbrev Str := List UInt8
abbrev sv (s : Str) : Value := .string ⟨s.toArray⟩
/-- A byte of a text. -/
@[go_sem] theorem ba_get (l : List UInt8) (k : Nat) (h : k < (ByteArray.mk l.toArray).size) : (ByteArray.mk l.toArray)[k]'h = l[k]'(by simpa [ByteArray.size] using h) := rfl
theorem ret_bool {a b : Bool} (h : a = b) : Ending.returned (.bool a) = .returned (.bool b) := by rw [h]
theorem ret_int {k : IntKind} {a b : Int} (h : a = b) : Ending.returned (.int k a) = .returned (.int k b) := by rw [h]

structure Agr where
  fr : Str
  tgt : Str
  msg : Str
  ver : Str
  first : Int
  last : Int
  test : Bool
  reply : Int
  inOrder : Bool
abbrev Agr.cells (a : Agr) : List Value := [sv a.fr, sv a.tgt, sv a.msg, sv a.ver, .int .i64 a.first, .int .i64 a.last, .bool a.test, .int .i64 a.reply, .bool a.inOrder]
abbrev Agr.v (a : Agr) : Value := .agg #[sv a.fr, sv a.tgt, sv a.msg, sv a.ver, .int .i64 a.first, .int .i64 a.last, .bool a.test, .int .i64 a.reply, .bool a.inOrder]
structure Cas where
  fr : Str
  tgt : Str
  msg : Str
  ver : Str
  day : Int
  test : Bool
abbrev Cas.v (a : Cas) : Value := .agg #[sv a.fr, sv a.tgt, sv a.msg, sv a.ver, .int .i64 a.day, .bool a.test]

def outB (n a b : Int) : Bool := decide (n < a) || decide (b < n)
def flagN (b : Bool) : Int := if b then 1 else 0
theorem flagN_bd (b : Bool) : 0 ≤ flagN b ∧ flagN b ≤ 1 := by cases b <;> simp [flagN]
def alikeB (a : Agr) (c : Cas) : Bool := (a.fr == c.fr) && (a.tgt == c.tgt) && (a.msg == [] || a.msg == c.msg) && (a.ver == [] || a.ver == c.ver) && (a.test == c.test)
def appliesB (a : Agr) (c : Cas) : Bool := alikeB a c && !outB c.day a.first a.last
def firstSign : List Int → Int
  | [] => 0
  | d :: r => if d < 0 then -1 else if 0 < d then 1 else firstSign r
theorem firstSign_at : ∀ (l : List Int) (k : Nat), (∀ j, j < k → l.getD j 0 = 0) → k < l.length → (l.getD k 0 < 0 → firstSign l = -1) ∧ (0 < l.getD k 0 → firstSign l = 1)
  | d :: r, 0, _, _ => ⟨fun h => by simp at h; simp [firstSign, h], fun h => by simp at h; simp [firstSign, h]; omega⟩
  | d :: r, k + 1, hz, hk => by
    have h0 : d = 0 := by simpa using hz 0 (by omega)
    have := firstSign_at r k (fun j hj => by simpa using hz (j + 1) (by omega)) (by simpa using hk)
    subst h0
    simpa [firstSign] using this
theorem firstSign_end : ∀ (l : List Int), (∀ j, j < l.length → l.getD j 0 = 0) → firstSign l = 0
  | [], _ => rfl
  | d :: r, hz => by
    have h0 : d = 0 := by simpa using hz 0 (by simp)
    subst h0
    simpa [firstSign] using firstSign_end r (fun j hj => by simpa using hz (j + 1) (by simpa using hj))
def betterN (a b : Agr) : Int := firstSign [flagN (!b.msg.isEmpty) - flagN (!a.msg.isEmpty), flagN (!b.ver.isEmpty) - flagN (!a.ver.isEmpty), b.first - a.first, a.last - b.last]
def rankN (a : Agr) : Int := if !a.ver.isEmpty then 2 else if !a.msg.isEmpty then 1 else 0
theorem rankN_bd (a : Agr) : 0 ≤ rankN a ∧ rankN a ≤ 2 := by unfold rankN; split <;> (try split) <;> omega
def better8N (a b : Agr) : Int := firstSign [rankN b - rankN a, b.first - a.first, a.last - b.last]
theorem better8_eq (a b : Agr) (ha : a.ver ≠ [] → a.msg ≠ []) (hb : b.ver ≠ [] → b.msg ≠ []) : better8N a b = betterN a b := by
  unfold better8N betterN rankN flagN
  cases h1 : a.ver <;> cases h2 : a.msg <;> cases h3 : b.ver <;> cases h4 : b.msg <;> simp_all [firstSign]
/-- A text that can be there. -/
def Str.Ok (s : Str) : Prop := s.length ≤ 9223372036854775807
def nameHead (c : UInt8) : Bool := decide (97 ≤ c.toNat) && decide (c.toNat ≤ 122)
def nameByte (c : UInt8) : Bool := nameHead c || (decide (48 ≤ c.toNat) && decide (c.toNat ≤ 57)) || decide (c.toNat = 45)
def isNameB : Str → Bool
  | [] => false
  | c :: s => decide (s.length < 40) && nameHead c && (c :: s).all nameByte
def isAnyB (s : Str) : Bool := s.isEmpty || isNameB s
def ownFaultN (a : Agr) : Int :=
  if a.fr = a.tgt then 12 else if (!isAnyB a.msg || !isAnyB a.ver) = true then 5 else if (!a.ver.isEmpty && a.msg.isEmpty) = true then 3
  else if (outB a.first 1 3652059 || outB a.last a.first 3652059 || outB a.reply 0 100000000) = true then 1 else 0
structure Agr.Ok (a : Agr) : Prop where
  msg : Str.Ok a.msg
  ver : Str.Ok a.ver
structure Ser where
  first : Int
  last : Int
abbrev Ser.v (s : Ser) : Value := .agg #[.int .i64 s.first, .int .i64 s.last]
def seriesFaultN (s : Ser) : Int := if (outB s.first 0 999999999999999 || outB s.last (s.first + 1) 999999999999999) = true then 1 else 0
def isOfB (s : Ser) (n : Int) : Bool := !outB n s.first s.last
def nextN (s : Ser) (last : Int) : Int × Int :=
  if seriesFaultN s ≠ 0 then (0, seriesFaultN s) else if isOfB s last = false then (0, 1) else if last = s.last then (s.first, 0) else (last + 1, 0)
/-- Days that fit. -/
structure Agr.Fit (a : Agr) : Prop where
  f0 : 0 ≤ a.first
  f1 : a.first ≤ 3652059
  l0 : 0 ≤ a.last
  l1 : a.last ≤ 3652059
theorem fit_of_own {a : Agr} (h : ownFaultN a = 0) : a.Fit ∧ (a.ver ≠ [] → a.msg ≠ []) := by
  unfold ownFaultN at h
  split at h
  · simp at h
  · split at h
    · simp at h
    · split at h
      · simp at h
      · rename_i h1 h2 h3
        split at h
        · simp at h
        · rename_i h4
          simp only [outB, Bool.or_eq_true, not_or, decide_eq_true_eq, Int.not_lt] at h4
          refine ⟨⟨by omega, by omega, by omega, by omega⟩, fun hv hm => h3 ?_⟩
          cases hve : a.ver with
          | nil => exact absurd hve hv
          | cons c t => simp [hm]
def BetterN (a b : Agr) : Int × Int := if ownFaultN a ≠ 0 then (0, ownFaultN a) else if ownFaultN b ≠ 0 then (0, ownFaultN b) else (betterN a b, 0)
end Go.Proofs.YtdopillligfdiaaDoor
