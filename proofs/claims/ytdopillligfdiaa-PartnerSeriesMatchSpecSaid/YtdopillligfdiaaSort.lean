/- The library's Sort, Compact and Clone at slices of whole numbers that are the call's own. -/
import Derived.Test.YtdopillligfdiaaElem
import Derived.Test.YtdopillligfdiaaShelf
import Derived.Sort.OwnSortedInts
import Derived.Lib.OwnBridge
import Derived.Lib.RowBridge
namespace Go.Proofs.Ytdopillligfdiaa
set_option linter.unusedSimpArgs false
set_option linter.unusedVariables false
open Go.RowKit

abbrev irows (l : List Int) : List (List Value) := l.map fun n => [.int .i64 n]
theorem irows_flat (l : List Int) : (irows l).flatten = l.map (Value.int .i64) := by
  induction l with
  | nil => rfl
  | cons x l ih => simp only [irows, List.map_cons, List.flatten_cons] at ih ⊢; rw [ih]; rfl
theorem own_ints {w : World} {B : Nat} {e : TypeId} {v : Value} {l : List Int} (h : Own w B e 1 v (irows l)) : w.ownsRow B e 1 v l.length (l.map (Value.int .i64)) := by
  have := h.own
  rwa [irows_flat, show (irows l).length = l.length by simp] at this
theorem ints_own {w : World} {B : Nat} {e : TypeId} {v : Value} {l : List Int} (h : w.ownsRow B e 1 v l.length (l.map (Value.int .i64))) : Own w B e 1 v (irows l) :=
  ⟨by rw [irows_flat, show (irows l).length = l.length by simp]; exact h, by simp⟩
abbrev sortI (l : List Int) : List Int := l.mergeSort fun x y => decide (x ≤ y)
theorem Sort_own (l : List Int) (v : Value) (B : Nat) (w : World) (h : Own w B 3 1 v (irows l)) (hl : l.length < 1000000000) :
    Calls Try.prog 9 #[v] w fun e w' => e = .returned (.tuple #[]) ∧ Own w' B 3 1 v (irows (sortI l)) ∧ Below B w w' := by
  have ho := own_ints h
  rcases ho.2 with ⟨rfl, hn⟩ | ⟨g, cap, cur, rfl, hb, hg, hnc, hcm, hcs, ht⟩
  · have : l = [] := List.eq_nil_of_length_eq_zero hn
    subst this
    have e0 : sortI [] = [] := by simp [sortI]
    rw [e0]
    exact (Try.slices_Sort_int_none none 0 w).mono fun e w' ⟨h1, h2⟩ => ⟨h1, by subst h2; exact h, by subst h2; exact Below.refl _ _⟩
  · have hlt : g < w.heap.size := (Array.getElem?_eq_some_iff.1 hg).1
    refine (Try.slices_Sort_int g 0 cap l w (holds_of_blockI hg (by simpa using ht)) hlt (by omega)).mono fun e w' ⟨h1, n, os, h2⟩ => ?_
    subst h2
    refine ⟨h1, ?_, (Below.refl B w).grown (grownBy_sortedI _) (by omega) (fun k hk => by cases hk; exact hb)⟩
    have hlen : (sortI l).length = l.length := List.length_mergeSort l
    have := ownsRow_sortedI (n := n) (os := os) (ts := sortI l) hlen hb hg hnc hcm hcs
    refine ints_own ?_
    rw [hlen]
    exact this
theorem Compact_own (l : List Int) (v : Value) (B : Nat) (w : World) (h : Own w B 3 1 v (irows l)) (hl : l.length < 1000000000) :
    Calls Try.prog 11 #[v] w fun e w' => ∃ v', e = .returned v' ∧ Own w' B 3 1 v' (irows (Lib.compact l)) ∧ Below B w w' := by
  have ho := own_ints h
  rcases ho.2 with ⟨rfl, hn⟩ | ⟨g, cap, cur, rfl, hb, hg, hnc, hcm, hcs, ht⟩
  · have : l = [] := List.eq_nil_of_length_eq_zero hn
    subst this
    exact (Try.slices_Compact_int_empty none 0 w).mono fun e w' ⟨h1, h2⟩ => ⟨_, h1, by subst h2; exact h, by subst h2; exact Below.refl _ _⟩
  · refine (Try.slices_Compact_int g 0 cap l w (holds_of_blockI hg (by simpa using ht)) (by omega) hnc).mono fun e w' ⟨h1, q, h2⟩ => ?_
    subst h2
    refine ⟨_, h1, ?_, Lib.below_putRow (Below.refl B w) hb⟩
    have hcl : (Lib.compact l).length ≤ l.length := Lib.compact_length_le l
    have := Lib.ownsRow_putRow (enc := Value.int .i64) (q := q) (k := (Lib.compact l).length) (zs := l) (ys := Lib.compact l ++ List.replicate (l.length - (Lib.compact l).length) 0) ho (by simp; omega) hcl
    refine ints_own ?_
    simpa using this
end Go.Proofs.Ytdopillligfdiaa
