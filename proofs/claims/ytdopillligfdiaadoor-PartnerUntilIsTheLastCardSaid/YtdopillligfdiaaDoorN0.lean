/- Partners and addresses: plain definitions. -/
import Derived.Test.YtdopillligfdiaaDoorTab
import Derived.Test.YtdopillligfdiaaDoorVal
namespace Go.Proofs.YtdopillligfdiaaDoor
set_option linter.unusedSimpArgs false
set_option linter.unusedVariables false
open Go.RowKit

structure Adr where
  kind : Str
  id : Str
  deriving DecidableEq
structure Par where
  name : Str
  addrs : List Adr
abbrev Adr.row (a : Adr) : List D := [.str a.kind, .str a.id]
abbrev Adr.d (a : Adr) : D := .agg [.str a.kind, .str a.id]
abbrev Adr.key (a : Adr) : Value := .agg [.string ⟨a.kind.toArray⟩, .string ⟨a.id.toArray⟩].toArray
abbrev Par.row (p : Par) : List D := [.str p.name, .sl 0 2 (p.addrs.map Adr.row)]
structure Adr.Ok (a : Adr) : Prop where
  kind : a.kind.Ok
  id : a.id.Ok
structure Par.Ok (p : Par) : Prop where
  name : p.name.Ok
  addrs : ∀ a ∈ p.addrs, a.Ok
def idByte (c : UInt8) : Bool := decide (33 ≤ c.toNat) && decide (c.toNat ≤ 126)
def adrFaultN (a : Adr) : Int := if isNameB a.kind = false then 5 else if (decide (a.id.length < 1) || decide (35 < a.id.length) || !a.id.all idByte) = true then 3 else 0
def adrsN : List Adr → List Adr → Int
  | _, [] => 0
  | seen, a :: r => if adrFaultN a ≠ 0 then adrFaultN a else if a ∈ seen then 7 else adrsN (seen ++ [a]) r
def notAfter (prev : Option Str) (n : Str) : Bool := match prev with
  | none => false
  | some q => Op.bytesLess n q || n == q
def parsN : List Adr → Option Str → List Par → Int
  | _, _, [] => 0
  | seen, prev, p :: r => if isNameB p.name = false then 5 else if notAfter prev p.name = true then 8 else if 10 < p.addrs.length then 2 else if adrsN seen p.addrs ≠ 0 then adrsN seen p.addrs else parsN (seen ++ p.addrs) (some p.name) r
def partnersN (l : List Par) : Int := if 200 < l.length then 2 else parsN [] none l
def partnerOfN (l : List Par) (a : Adr) : Str := match l with
  | [] => []
  | p :: r => if a ∈ p.addrs then p.name else partnerOfN r a
def PartnerOfN (l : List Par) (a : Adr) : Str × Bool × Int :=
  if partnersN l ≠ 0 then ([], false, partnersN l) else if adrFaultN a ≠ 0 then ([], false, adrFaultN a) else (partnerOfN l a, !(partnerOfN l a).isEmpty, 0)
/-- What came before the number k. -/
def seenAt (l : List Par) (k : Nat) : List Adr := (l.take k).flatMap Par.addrs
def prevAt (l : List Par) : Nat → Option Str
  | 0 => none
  | k + 1 => l[k]?.map Par.name
theorem drop_at {α : Type} {l : List α} {k : Nat} {x : α} (h : l[k]? = some x) : l.drop k = x :: l.drop (k + 1) := by
  obtain ⟨hlt, rfl⟩ := List.getElem?_eq_some_iff.1 h
  exact List.drop_eq_getElem_cons hlt
theorem take_at {α : Type} {l : List α} {k : Nat} {x : α} (h : l[k]? = some x) : l.take (k + 1) = l.take k ++ [x] := by
  obtain ⟨hlt, rfl⟩ := List.getElem?_eq_some_iff.1 h
  exact List.take_succ_eq_append_getElem hlt
theorem seenAt_next {l : List Par} {k : Nat} {p : Par} (h : l[k]? = some p) : seenAt l (k + 1) = seenAt l k ++ p.addrs := by
  unfold seenAt
  rw [take_at h]
  simp
theorem adrsN_at {seen l : List Adr} {j : Nat} {a : Adr} (h : l[j]? = some a) : adrsN seen (l.drop j) = if adrFaultN a ≠ 0 then adrFaultN a else if a ∈ seen then 7 else adrsN (seen ++ [a]) (l.drop (j + 1)) := by
  rw [drop_at h]
  rfl
theorem parsN_at {l : List Par} {seen : List Adr} {prev : Option Str} {k : Nat} {p : Par} (h : l[k]? = some p) : parsN seen prev (l.drop k) = if isNameB p.name = false then 5 else if notAfter prev p.name = true then 8 else if 10 < p.addrs.length then 2 else if adrsN seen p.addrs ≠ 0 then adrsN seen p.addrs else parsN (seen ++ p.addrs) (some p.name) (l.drop (k + 1)) := by
  rw [drop_at h]
  rfl
theorem keyEq_adr (a b : Adr) : keyEq a.key b.key = decide (a = b) := by
  obtain ⟨k, i⟩ := a
  obtain ⟨k', i'⟩ := b
  rw [Bool.eq_iff_iff]
  simp [keyEq, veqs, veq]
/-- The keys that are there. -/
abbrev seenM (seen : List Adr) : List (Value × Value) := seen.map fun a => (a.key, .bool true)
theorem find_seen (a : Adr) : ∀ seen : List Adr, findV a.key (seenM seen) = if a ∈ seen then some (.bool true) else none
  | [] => rfl
  | b :: r => by
    have h := keyEq_adr a b
    simp only [seenM, List.map_cons, findV, h]
    by_cases hab : a = b
    · simp [hab]
    · have := find_seen a r
      simp only [seenM] at this
      simp [hab, this]
theorem look_seen (a : Adr) (seen : List Adr) : lookD (seenM seen) a.key (.bool false) = .bool (decide (a ∈ seen)) := by
  unfold lookD
  rw [find_seen]
  by_cases h : a ∈ seen <;> simp [h, ofV1, ofVal]
theorem put_seen (a : Adr) : ∀ {seen : List Adr}, a ∉ seen → putV a.key (.bool true) (seenM seen) = seenM (seen ++ [a])
  | [], _ => rfl
  | b :: r, h => by
    have hk := keyEq_adr a b
    simp only [List.mem_cons, not_or] at h
    have := put_seen a h.2
    simp only [seenM] at this
    simp only [seenM, List.map_cons, putV, hk, List.cons_append]
    simp [h.1, this]
end Go.Proofs.YtdopillligfdiaaDoor
