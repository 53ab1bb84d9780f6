/- The library's Sort and Compact at slices of whole numbers, as what they do to data. -/
import Derived.Test.YtdopillligfdiaaDoorTab
import Derived.Test.YtdopillligfdiaaDoorShelf2
import Derived.Sort.OwnSortedInts
import Derived.Lib.OwnBridge
import Derived.Lib.RowBridge
namespace Go.Proofs.YtdopillligfdiaaDoor
set_option linter.unusedSimpArgs false
set_option linter.unusedVariables false
open Go.RowKit Go.Sort

def iR (n : Int) : List D := [.int .i64 n]
theorem iR_inj {a b : Int} (h : iR a = iR b) : a = b := by cases h; rfl
abbrev sortI (l : List Int) : List Int := l.mergeSort fun x y => decide (x ≤ y)
section
variable {S S' : Sig} {w w' : World} {p : Place} {b cap m : Nat} {l : List Int} {cur : Array Value} {e : TypeId}
theorem OwnAt.ints (g : OwnAt S w p b cap m 1 (l.map iR) cur e) : cur.toList.take l.length = l.map (Value.int .i64) := by
  apply List.ext_getElem?
  intro j
  by_cases hj : j < l.length
  · rw [List.getElem?_take_of_lt hj, Array.getElem?_toList]
    obtain ⟨v, h1, _, h3⟩ := g.cells j (iR l[j]) 0 (.int .i64 l[j]) (by simp [hj]) rfl
    cases h3
    rw [Nat.mul_one, Nat.add_zero] at h1
    rw [h1]
    simp [hj]
  · rw [List.getElem?_take_eq_none (by omega), List.getElem?_eq_none (by simp; omega)]
theorem OwnAt.ofInts (hm : m = 1 ∨ m = 2) (hh : w.heap[b]? = some (.cells cur e (0, 0))) (hl : l.length ≤ cap) (hx : cap ≤ maxLen) (hs : cur.size = cap) (ho : S.own b = some (p, if m = 2 then 0 else l.length)) (ht : cur.toList.take l.length = l.map (Value.int .i64)) : OwnAt S w p b cap m 1 (l.map iR) cur e := by
  refine ⟨hm, hh, by simpa using hl, hx, by omega, fun r hr => ?_, by simpa using ho, fun k r j d hk hd => ?_⟩
  · obtain ⟨n, _, rfl⟩ := List.mem_map.1 hr
    rfl
  · rw [List.getElem?_map] at hk
    cases hlk : l[k]? with
    | none => rw [hlk] at hk; cases hk
    | some n =>
      rw [hlk] at hk
      cases hk
      have hkl := (List.getElem?_eq_some_iff.1 hlk).1
      cases j with
      | zero =>
        cases hd
        refine ⟨.int .i64 n, ?_, rfl, .int _ _⟩
        rw [← Array.getElem?_toList, Nat.mul_one, Nat.add_zero]
        have : (cur.toList.take l.length)[k]? = (l.map (Value.int .i64))[k]? := by rw [ht]
        rw [List.getElem?_take_of_lt hkl, List.getElem?_map, hlk] at this
        exact this
      | succ j => simp [iR] at hd
/-- A call that writes the block of its first argument. -/
theorem own_step (hw : WF S w) (ho : S.own b = some (.slot 0, 0)) (hg : w.grownBy w' (some b)) (hh : w.heap[b]? = some (.cells cur e (0, 0))) {cur' : Array Value} (hh' : w'.heap[b]? = some (.cells cur' e (0, 0))) (hs : cur'.size = cur.size) {x : Place × Nat} : WF (S.set b (some x)) w' ∧ Trans S w (S.set b (some x)) w' := by
  have other : ∀ b', b' < w.heap.size → b' ≠ b → w'.heap[b']? = w.heap[b']? := fun b' hb hne => hg.block b' hb (fun e => hne (Option.some.inj e))
  refine ⟨fun b' y hy => ?_, hg.os, hg.tape, hg.output, hg.size, fun b' hb hn => ?_, fun b' q l hb hq hr => ?_, fun b' q l hb hq => ?_, rfl⟩
  · by_cases hbb : b' = b
    · subst hbb; exact Nat.lt_of_lt_of_le (hw _ _ ho) hg.size
    · rw [Sig.set_ne _ _ hbb] at hy
      exact Nat.lt_of_lt_of_le (hw _ _ hy) hg.size
  · have hbb : b' ≠ b := fun e => by subst e; rw [ho] at hn; cases hn
    exact ⟨other b' hb hbb, by rw [Sig.set_ne _ _ hbb]; exact hn⟩
  · have hbb : b' ≠ b := fun e => by subst e; rw [ho] at hq; cases hq; simp [Place.slot] at hr
    exact ⟨other b' hb hbb, by rw [Sig.set_ne _ _ hbb]; exact hq⟩
  · by_cases hbb : b' = b
    · subst hbb
      rw [ho] at hq
      cases hq
      refine ⟨fun c t fz hc => ?_, fun x _ => Nat.zero_le _⟩
      rw [hh] at hc
      cases hc
      exact ⟨cur', hh', hs, fun off ho => absurd ho (Nat.not_lt_zero _)⟩
    · refine ⟨Keeps.of_eq (other b' hb hbb), fun x hx => ?_⟩
      rw [Sig.set_ne _ _ hbb, hq] at hx
      cases hx
      exact Nat.le_refl _
end
theorem Sort_ints (l : List Int) (hl : l.length < 1000000000) : SemO Tryd.prog 118 (.sl 2 1 (l.map iR)) [] (.tup []) (some (.sl 2 1 ((sortI l).map iR))) := by
  refine ⟨inferInstance, rfl, fun d' h => by cases h; rfl, fun S w v0 vs hw hr hvl _ => ?_⟩
  obtain rfl : vs = [] := List.eq_nil_of_length_eq_zero hvl
  have hlen : (sortI l).length = l.length := List.length_mergeSort l
  rcases hr.sl_inv with ⟨rfl, h0⟩ | ⟨b, cap, cur, e, rfl, g⟩
  · have : l = [] := by simpa using h0
    subst this
    have e0 : sortI [] = [] := by simp [sortI]
    refine (Tryd.slices_Sort_int_none none 0 w).mono fun e w' ⟨h1, h2⟩ => ?_
    subst h2
    refine ⟨_, S, h1, hw, Trans.refl S _, .fz (.tup [] rfl fun j d v hd => by cases hd), fun d' hd => ?_⟩
    cases hd
    rw [e0]
    exact .fz (.slNil 2 1)
  · have ht := g.ints
    have hlt : b < w.heap.size := (Array.getElem?_eq_some_iff.1 g.heap).1
    have hle : l.length ≤ cap := by simpa using g.le
    have hsz : cur.size = cap := by have := g.size; omega
    rw [show (l.map iR).length = l.length by simp]
    refine (Tryd.slices_Sort_int b 0 cap l w (holds_of_blockI g.heap ht) hlt (by omega)).mono fun e' w' ⟨h1, n, os, h2⟩ => ?_
    have hh' := heap_sortedI (n := n) (os := os) (sortI l).toArray g.heap
    have hgr := grownBy_sortedI (w := w) (g := b) (n := n) (os := os) (sortI l).toArray
    rw [← h2] at hh' hgr
    obtain ⟨k1, k2⟩ := own_step (x := (.slot 0, 0)) hw (by simpa using g.own) hgr g.heap hh' (by simp [putCells])
    refine ⟨_, _, h1, k1, k2, .fz (.tup [] rfl fun j d v hd => by cases hd), fun d' hd => ?_⟩
    cases hd
    have ho := OwnAt.ofInts (S := S.set b (some (.slot 0, 0))) (p := .slot 0) (m := 2) (l := sortI l) (cap := cap) (.inr rfl) hh' (by omega) g.max (by simp [putCells]; omega) (by rw [Sig.set_at]; rfl) (take_putCellsI cur (sortI l) (by omega))
    have := Rep.own ho
    rwa [show ((sortI l).map iR).length = l.length by simp [hlen]] at this
theorem Compact_ints (l : List Int) (hl : l.length < 1000000000) : SemO Tryd.prog 119 (.sl 2 1 (l.map iR)) [] (.sl 2 1 ((Lib.compact l).map iR)) none := by
  refine ⟨inferInstance, rfl, (fun d' h => nomatch h), fun S w v0 vs hw hr hvl _ => ?_⟩
  obtain rfl : vs = [] := List.eq_nil_of_length_eq_zero hvl
  have hcl : (Lib.compact l).length ≤ l.length := Lib.compact_length_le l
  rcases hr.sl_inv with ⟨rfl, h0⟩ | ⟨b, cap, cur, e, rfl, g⟩
  · have : l = [] := by simpa using h0
    subst this
    refine (Tryd.slices_Compact_int_empty none 0 w).mono fun e w' ⟨h1, h2⟩ => ?_
    subst h2
    exact ⟨_, S, h1, hw, Trans.refl S _, .fz (.slNil 2 1), fun d' hd => nomatch hd⟩
  · have ht := g.ints
    have hle : l.length ≤ cap := by simpa using g.le
    have hsz : cur.size = cap := by have := g.size; omega
    have hlt : b < w.heap.size := (Array.getElem?_eq_some_iff.1 g.heap).1
    have hmx := g.max
    have hmax : cap ≤ 9223372036854775807 := by
      have : maxLen = 9223372036854775807 := rfl
      omega
    rw [show (l.map iR).length = l.length by simp]
    refine (Tryd.slices_Compact_int b 0 cap l w (holds_of_blockI g.heap ht) (by omega) hle).mono fun e' w' ⟨h1, q, h2⟩ => ?_
    generalize hys : Lib.compact l ++ List.replicate (l.length - (Lib.compact l).length) 0 = ys at h2
    have hyl : ys.length = l.length := by rw [← hys]; simp; omega
    have hyt : ys.take (Lib.compact l).length = Lib.compact l := by rw [← hys]; simp
    have hh' : w'.heap[b]? = some (.cells (putCells (Value.int .i64) 0 ys.toArray cur) e (0, 0)) := by
      rw [h2]
      simp [putRow, mapBlock, Sort.ahead, Array.getElem?_modify, g.heap, onCells]
    have hgr : w.grownBy w' (some b) := by
      rw [h2]
      refine ⟨rfl, rfl, rfl, by simp [putRow, mapBlock, Sort.ahead], fun k hk hne => ?_⟩
      have : b ≠ k := fun e => hne (by rw [e])
      simp [putRow, mapBlock, Sort.ahead, Array.getElem?_modify, this]
    obtain ⟨k1, k2⟩ := own_step (x := (.res, 0)) hw (by simpa using g.own) hgr g.heap hh' (by simp [putCells])
    refine ⟨_, _, h1, k1, k2, ?_, fun d' hd => nomatch hd⟩
    have htk : (putCells (Value.int .i64) 0 ys.toArray cur).toList.take (Lib.compact l).length = (Lib.compact l).map (Value.int .i64) := by
      have h3 := take_putCellsI cur ys (by omega)
      have h4 := congrArg (List.take (Lib.compact l).length) h3
      rw [List.take_take, ← List.map_take, hyt, Nat.min_eq_left (by omega)] at h4
      exact h4
    have ho := OwnAt.ofInts (S := S.set b (some (.res, 0))) (p := .res) (m := 2) (l := Lib.compact l) (cap := cap) (.inr rfl) hh' (by omega) g.max (by simp [putCells]; omega) (by rw [Sig.set_at]; rfl) htk
    have := Rep.own ho
    rwa [show ((Lib.compact l).map iR).length = (Lib.compact l).length by simp] at this
end Go.Proofs.YtdopillligfdiaaDoor
