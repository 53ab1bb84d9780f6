/- The library's Sort and Compact at slices of whole numbers, as what they do to data. Partners and addresses: plain definitions. -/
import Derived.Test.YthbhjladfniboaaGreatDoorZ6
import Derived.Test.YthbhjladfniboaaGreatDoorZ7
import Derived.Sort.OwnSortedInts
import Derived.Lib.OwnBridge
import Derived.Lib.RowBridge
import Derived.Test.YthbhjladfniboaaGreatDoorZ4
namespace Go.Proofs.YthbhjladfniboaaGreatDoor
set_option linter.unusedSimpArgs false
set_option linter.unusedVariables false
open Go.RowKit Go.Sort

def iR (n : Int) : List D := [.int .i64 n]
abbrev sortI (l : List Int) : List Int := l.mergeSort fun x y => decide (x ≤ y)
section
variable {S S' : Sig} {w w' : World} {p : Place} {b cap m : Nat} {l : List Int} {cur : Array Value} {e : TypeId}
theorem OwnAt.ints (g : OwnAt S w p b cap m 1 (l.map iR) cur e) : cur.toList.take l.length = l.map (Value.int .i64) := by
  apply List.ext_getElem?
  intro j
  by_cases hj : j < l.length
  · rw [List.getElem?_take_of_lt hj, Array.getElem?_toList]
    obtain ⟨v, h1, _, h3⟩ := g.cells j (iR l[j]) 0 (.int .i64 l[j]) (by simp [hj]) rfl
    cases h3
    rw [Nat.mul_one, Nat.add_zero] at h1
    rw [h1]
    simp [hj]
  · rw [List.getElem?_take_eq_none (by omega), List.getElem?_eq_none (by simp; omega)]
theorem OwnAt.ofInts (hm : m = 1 ∨ m = 2) (hh : w.heap[b]? = some (.cells cur e (0, 0))) (hl : l.length ≤ cap) (hx : cap ≤ maxLen) (hs : cur.size = cap) (ho : S.own b = some (p, if m = 2 then 0 else l.length)) (ht : cur.toList.take l.length = l.map (Value.int .i64)) : OwnAt S w p b cap m 1 (l.map iR) cur e := by
  refine ⟨hm, hh, by simpa using hl, hx, by omega, fun r hr => ?_, by simpa using ho, fun k r j d hk hd => ?_⟩
  · obtain ⟨n, _, rfl⟩ := List.mem_map.1 hr
    rfl
  · rw [List.getElem?_map] at hk
    cases hlk : l[k]? with
    | none => rw [hlk] at hk; cases hk
    | some n =>
      rw [hlk] at hk
      cases hk
      have hkl := (List.getElem?_eq_some_iff.1 hlk).1
      cases j with
      | zero =>
        cases hd
        refine ⟨.int .i64 n, ?_, rfl, .int _ _⟩
        rw [← Array.getElem?_toList, Nat.mul_one, Nat.add_zero]
        have : (cur.toList.take l.length)[k]? = (l.map (Value.int .i64))[k]? := by rw [ht]
        rw [List.getElem?_take_of_lt hkl, List.getElem?_map, hlk] at this
        exact this
      | succ j => simp [iR] at hd
/-- A call that writes the block of its first argument. -/
theorem own_step (hw : WF S w) (ho : S.own b = some (.slot 0, 0)) (hg : w.grownBy w' (some b)) (hh : w.heap[b]? = some (.cells cur e (0, 0))) {cur' : Array Value} (hh' : w'.heap[b]? = some (.cells cur' e (0, 0))) (hs : cur'.size = cur.size) {x : Place × Nat} : WF (S.set b (some x)) w' ∧ Trans S w (S.set b (some x)) w' := by
  have other : ∀ b', b' < w.heap.size → b' ≠ b → w'.heap[b']? = w.heap[b']? := fun b' hb hne => hg.block b' hb (fun e => hne (Option.some.inj e))
  refine ⟨fun b' y hy => ?_, hg.os, hg.tape, hg.output, hg.size, fun b' hb hn => ?_, fun b' q l hb hq hr => ?_, fun b' q l hb hq => ?_, rfl⟩
  · by_cases hbb : b' = b
    · subst hbb; exact Nat.lt_of_lt_of_le (hw _ _ ho) hg.size
    · rw [Sig.set_ne _ _ hbb] at hy
      exact Nat.lt_of_lt_of_le (hw _ _ hy) hg.size
  · have hbb : b' ≠ b := fun e => by subst e; rw [ho] at hn; cases hn
    exact ⟨other b' hb hbb, by rw [Sig.set_ne _ _ hbb]; exact hn⟩
  · have hbb : b' ≠ b := fun e => by subst e; rw [ho] at hq; cases hq; simp [Place.slot] at hr
    exact ⟨other b' hb hbb, by rw [Sig.set_ne _ _ hbb]; exact hq⟩
  · by_cases hbb : b' = b
    · subst hbb
      rw [ho] at hq
      cases hq
      refine ⟨fun c t fz hc => ?_, fun x _ => Nat.zero_le _⟩
      rw [hh] at hc
      cases hc
      exact ⟨cur', hh', hs, fun off ho => absurd ho (Nat.not_lt_zero _)⟩
    · refine ⟨Keeps.of_eq (other b' hb hbb), fun x hx => ?_⟩
      rw [Sig.set_ne _ _ hbb, hq] at hx
      cases hx
      exact Nat.le_refl _
end
theorem Sort_ints (l : List Int) (hl : l.length < 1000000000) : SemO Tryz.prog 52 (.sl 2 1 (l.map iR)) [] (.tup []) (some (.sl 2 1 ((sortI l).map iR))) := by
  refine ⟨inferInstance, rfl, fun d' h => by cases h; rfl, fun S w v0 vs hw hr hvl _ => ?_⟩
  obtain rfl : vs = [] := List.eq_nil_of_length_eq_zero hvl
  have hlen : (sortI l).length = l.length := List.length_mergeSort l
  rcases hr.sl_inv with ⟨rfl, h0⟩ | ⟨b, cap, cur, e, rfl, g⟩
  · have : l = [] := by simpa using h0
    subst this
    have e0 : sortI [] = [] := by simp [sortI]
    refine (Tryz.slices_Sort_int_none none 0 w).mono fun e w' ⟨h1, h2⟩ => ?_
    subst h2
    refine ⟨_, S, h1, hw, Trans.refl S _, .fz (.tup [] rfl fun j d v hd => by cases hd), fun d' hd => ?_⟩
    cases hd
    rw [e0]
    exact .fz (.slNil 2 1)
  · have ht := g.ints
    have hlt : b < w.heap.size := (Array.getElem?_eq_some_iff.1 g.heap).1
    have hle : l.length ≤ cap := by simpa using g.le
    have hsz : cur.size = cap := by have := g.size; omega
    rw [show (l.map iR).length = l.length by simp]
    refine (Tryz.slices_Sort_int b 0 cap l w (holds_of_blockI g.heap ht) hlt (by omega)).mono fun e' w' ⟨h1, n, os, h2⟩ => ?_
    have hh' := heap_sortedI (n := n) (os := os) (sortI l).toArray g.heap
    have hgr := grownBy_sortedI (w := w) (g := b) (n := n) (os := os) (sortI l).toArray
    rw [← h2] at hh' hgr
    obtain ⟨k1, k2⟩ := own_step (x := (.slot 0, 0)) hw (by simpa using g.own) hgr g.heap hh' (by simp [putCells])
    refine ⟨_, _, h1, k1, k2, .fz (.tup [] rfl fun j d v hd => by cases hd), fun d' hd => ?_⟩
    cases hd
    have ho := OwnAt.ofInts (S := S.set b (some (.slot 0, 0))) (p := .slot 0) (m := 2) (l := sortI l) (cap := cap) (.inr rfl) hh' (by omega) g.max (by simp [putCells]; omega) (by rw [Sig.set_at]; rfl) (take_putCellsI cur (sortI l) (by omega))
    have := Rep.own ho
    rwa [show ((sortI l).map iR).length = l.length by simp [hlen]] at this
theorem Compact_ints (l : List Int) (hl : l.length < 1000000000) : SemO Tryz.prog 53 (.sl 2 1 (l.map iR)) [] (.sl 2 1 ((Lib.compact l).map iR)) none := by
  refine ⟨inferInstance, rfl, (fun d' h => nomatch h), fun S w v0 vs hw hr hvl _ => ?_⟩
  obtain rfl : vs = [] := List.eq_nil_of_length_eq_zero hvl
  have hcl : (Lib.compact l).length ≤ l.length := Lib.compact_length_le l
  rcases hr.sl_inv with ⟨rfl, h0⟩ | ⟨b, cap, cur, e, rfl, g⟩
  · have : l = [] := by simpa using h0
    subst this
    refine (Tryz.slices_Compact_int_empty none 0 w).mono fun e w' ⟨h1, h2⟩ => ?_
    subst h2
    exact ⟨_, S, h1, hw, Trans.refl S _, .fz (.slNil 2 1), fun d' hd => nomatch hd⟩
  · have ht := g.ints
    have hle : l.length ≤ cap := by simpa using g.le
    have hsz : cur.size = cap := by have := g.size; omega
    have hlt : b < w.heap.size := (Array.getElem?_eq_some_iff.1 g.heap).1
    have hmx := g.max
    have hmax : cap ≤ 9223372036854775807 := by
      have : maxLen = 9223372036854775807 := rfl
      omega
    rw [show (l.map iR).length = l.length by simp]
    refine (Tryz.slices_Compact_int b 0 cap l w (holds_of_blockI g.heap ht) (by omega) hle).mono fun e' w' ⟨h1, q, h2⟩ => ?_
    generalize hys : Lib.compact l ++ List.replicate (l.length - (Lib.compact l).length) 0 = ys at h2
    have hyl : ys.length = l.length := by rw [← hys]; simp; omega
    have hyt : ys.take (Lib.compact l).length = Lib.compact l := by rw [← hys]; simp
    have hh' : w'.heap[b]? = some (.cells (putCells (Value.int .i64) 0 ys.toArray cur) e (0, 0)) := by
      rw [h2]
      simp [putRow, mapBlock, Sort.ahead, Array.getElem?_modify, g.heap, onCells]
    have hgr : w.grownBy w' (some b) := by
      rw [h2]
      refine ⟨rfl, rfl, rfl, by simp [putRow, mapBlock, Sort.ahead], fun k hk hne => ?_⟩
      have : b ≠ k := fun e => hne (by rw [e])
      simp [putRow, mapBlock, Sort.ahead, Array.getElem?_modify, this]
    obtain ⟨k1, k2⟩ := own_step (x := (.res, 0)) hw (by simpa using g.own) hgr g.heap hh' (by simp [putCells])
    refine ⟨_, _, h1, k1, k2, ?_, fun d' hd => nomatch hd⟩
    have htk : (putCells (Value.int .i64) 0 ys.toArray cur).toList.take (Lib.compact l).length = (Lib.compact l).map (Value.int .i64) := by
      have h3 := take_putCellsI cur ys (by omega)
      have h4 := congrArg (List.take (Lib.compact l).length) h3
      rw [List.take_take, ← List.map_take, hyt, Nat.min_eq_left (by omega)] at h4
      exact h4
    have ho := OwnAt.ofInts (S := S.set b (some (.res, 0))) (p := .res) (m := 2) (l := Lib.compact l) (cap := cap) (.inr rfl) hh' (by omega) g.max (by simp [putCells]; omega) (by rw [Sig.set_at]; rfl) htk
    have := Rep.own ho
    rwa [show ((Lib.compact l).map iR).length = (Lib.compact l).length by simp] at this
end Go.Proofs.YthbhjladfniboaaGreatDoor
namespace Go.Proofs.YthbhjladfniboaaGreatDoor
set_option linter.unusedSimpArgs false
set_option linter.unusedVariables false
open Go.RowKit

structure Adr where
  kind : Str
  id : Str
  deriving DecidableEq
structure Par where
  name : Str
  addrs : List Adr
abbrev Adr.row (a : Adr) : List D := [.str a.kind, .str a.id]
abbrev Adr.d (a : Adr) : D := .agg [.str a.kind, .str a.id]
abbrev Adr.key (a : Adr) : Value := .agg [.string ⟨a.kind.toArray⟩, .string ⟨a.id.toArray⟩].toArray
abbrev Par.row (p : Par) : List D := [.str p.name, .sl 0 2 (p.addrs.map Adr.row)]
structure Adr.Ok (a : Adr) : Prop where
  kind : a.kind.Ok
  id : a.id.Ok
structure Par.Ok (p : Par) : Prop where
  name : p.name.Ok
  addrs : ∀ a ∈ p.addrs, a.Ok
def idByte (c : UInt8) : Bool := decide (33 ≤ c.toNat) && decide (c.toNat ≤ 126)
def adrFaultN (a : Adr) : Int := if isNameB a.kind = false then 5 else if (decide (a.id.length < 1) || decide (35 < a.id.length) || !a.id.all idByte) = true then 3 else 0
def adrsN : List Adr → List Adr → Int
  | _, [] => 0
  | seen, a :: r => if adrFaultN a ≠ 0 then adrFaultN a else if a ∈ seen then 7 else adrsN (seen ++ [a]) r
def notAfter (prev : Option Str) (n : Str) : Bool := match prev with
  | none => false
  | some q => Op.bytesLess n q || n == q
def parsN : List Adr → Option Str → List Par → Int
  | _, _, [] => 0
  | seen, prev, p :: r => if isNameB p.name = false then 5 else if notAfter prev p.name = true then 8 else if 10 < p.addrs.length then 2 else if adrsN seen p.addrs ≠ 0 then adrsN seen p.addrs else parsN (seen ++ p.addrs) (some p.name) r
def partnersN (l : List Par) : Int := if 200 < l.length then 2 else parsN [] none l
/-- What came before the number k. -/
def seenAt (l : List Par) (k : Nat) : List Adr := (l.take k).flatMap Par.addrs
def prevAt (l : List Par) : Nat → Option Str
  | 0 => none
  | k + 1 => l[k]?.map Par.name
theorem drop_at {α : Type} {l : List α} {k : Nat} {x : α} (h : l[k]? = some x) : l.drop k = x :: l.drop (k + 1) := by
  obtain ⟨hlt, rfl⟩ := List.getElem?_eq_some_iff.1 h
  exact List.drop_eq_getElem_cons hlt
theorem take_at {α : Type} {l : List α} {k : Nat} {x : α} (h : l[k]? = some x) : l.take (k + 1) = l.take k ++ [x] := by
  obtain ⟨hlt, rfl⟩ := List.getElem?_eq_some_iff.1 h
  exact List.take_succ_eq_append_getElem hlt
theorem seenAt_next {l : List Par} {k : Nat} {p : Par} (h : l[k]? = some p) : seenAt l (k + 1) = seenAt l k ++ p.addrs := by
  unfold seenAt
  rw [take_at h]
  simp
theorem adrsN_at {seen l : List Adr} {j : Nat} {a : Adr} (h : l[j]? = some a) : adrsN seen (l.drop j) = if adrFaultN a ≠ 0 then adrFaultN a else if a ∈ seen then 7 else adrsN (seen ++ [a]) (l.drop (j + 1)) := by
  rw [drop_at h]
  rfl
theorem parsN_at {l : List Par} {seen : List Adr} {prev : Option Str} {k : Nat} {p : Par} (h : l[k]? = some p) : parsN seen prev (l.drop k) = if isNameB p.name = false then 5 else if notAfter prev p.name = true then 8 else if 10 < p.addrs.length then 2 else if adrsN seen p.addrs ≠ 0 then adrsN seen p.addrs else parsN (seen ++ p.addrs) (some p.name) (l.drop (k + 1)) := by
  rw [drop_at h]
  rfl
theorem keyEq_adr (a b : Adr) : keyEq a.key b.key = decide (a = b) := by
  obtain ⟨k, i⟩ := a
  obtain ⟨k', i'⟩ := b
  rw [Bool.eq_iff_iff]
  simp [keyEq, veqs, veq]
/-- The keys that are there. -/
abbrev seenM (seen : List Adr) : List (Value × Value) := seen.map fun a => (a.key, .bool true)
theorem find_seen (a : Adr) : ∀ seen : List Adr, findV a.key (seenM seen) = if a ∈ seen then some (.bool true) else none
  | [] => rfl
  | b :: r => by
    have h := keyEq_adr a b
    simp only [seenM, List.map_cons, findV, h]
    by_cases hab : a = b
    · simp [hab]
    · have := find_seen a r
      simp only [seenM] at this
      simp [hab, this]
theorem look_seen (a : Adr) (seen : List Adr) : lookD (seenM seen) a.key (.bool false) = .bool (decide (a ∈ seen)) := by
  unfold lookD
  rw [find_seen]
  by_cases h : a ∈ seen <;> simp [h, ofV1, ofVal]
theorem put_seen (a : Adr) : ∀ {seen : List Adr}, a ∉ seen → putV a.key (.bool true) (seenM seen) = seenM (seen ++ [a])
  | [], _ => rfl
  | b :: r, h => by
    have hk := keyEq_adr a b
    simp only [List.mem_cons, not_or] at h
    have := put_seen a h.2
    simp only [seenM] at this
    simp only [seenM, List.map_cons, putV, hk, List.cons_append]
    simp [h.1, this]
end Go.Proofs.YthbhjladfniboaaGreatDoor
