/- strconv.FormatUint at base 16. -/
import Derived.Test.YtkjgmjocikmplaaGreatDoorZ6
import Derived.Test.YtkjgmjocikmplaaGreatDoorProg
import Derived.WalkKit
import Derived.Lib.Walk
import Derived.BigCall
import Derived.BigGuard
import Derived.Laws.IdiomStrings
import Derived.Lib.SlBytesConst
import Derived.Sort.Row
import Derived.LoopTactic
import Derived.Lib.ItoaWalk
import Derived.Lib.ItoaMem
namespace Go.Proofs.YtkjgmjocikmplaaGreatDoor
set_option linter.unusedSimpArgs false
set_option linter.unusedVariables false
open Go.RowKit Go.Lib
set_option maxRecDepth 100000
set_option maxHeartbeats 4000000

theorem pow2_eq (w : World) : Calls Tryz.prog 73 #[.int .i64 16] w fun e w' => e = .returned (.bool true) ∧ w' = w := by
  go_enter Tryz.func73, Tryz.ntmps73
  go_wp2
  go_ret
  exact ⟨rfl, rfl⟩
theorem tz64_eq (w : World) (h : w.cell? ⟨5, 15, none⟩ = some (.int .u8 4)) : Calls Tryz.prog 90 #[.int .u64 16] w fun e w' => e = .returned (.int .i64 4) ∧ w' = w := by
  have hn : IntKind.u64.wrap (-16) = 18446744073709551600 := by decide +kernel
  have hb : bits BinOp.and IntKind.u64 16 18446744073709551600 = 16 := by decide +kernel
  have hm : IntKind.u64.wrap 4573923408821661840 = 4573923408821661840 := by decide +kernel
  go_enter Tryz.func90, Tryz.ntmps90
  go_wp21
  clear hn hb hm h
  go_ret
  exact ⟨by simp, rfl⟩
theorem tz_eq (w : World) (h : w.cell? ⟨5, 15, none⟩ = some (.int .u8 4)) : Calls Tryz.prog 74 #[.int .u64 16] w fun e w' => e = .returned (.int .i64 4) ∧ w' = w := by
  go_enter Tryz.func74, Tryz.ntmps74
  go_wp2_with (go_at_call 90; refine (tz64_eq _ h).mono ?_; rintro e w' ⟨rfl, rfl⟩)
  go_ret
  exact ⟨rfl, rfl⟩
/-- How far the digits are written. -/
structure Dig (u v m : Nat) (cur : Array Value) : Prop where
  size : cur.size = 65
  le : 49 ≤ m ∧ m ≤ 64
  lt : v < 16 ^ (m - 48)
  done : ∃ L : List UInt8, L.length = 64 - m ∧ fmt16 u = fmt16 v ++ L ∧ ∀ (j : Nat) (b : UInt8), L[j]? = some b → cur[m + 1 + j]? = some (.int .u8 b.toNat)
theorem Dig.next {u v m : Nat} {cur : Array Value} (h : Dig u v m cur) (hv : 16 ≤ v) : 50 ≤ m ∧ Dig u (v / 16) (m - 1) (cur.setIfInBounds m (.int .u8 (hexD (v % 16)).toNat)) := by
  obtain ⟨L, l1, l2, l3⟩ := h.done
  have hm : 50 ≤ m := by
    have h1 := h.lt
    have h2 := h.le
    by_cases e : m = 49
    · subst e; simp at h1; omega
    · omega
  have h64 := h.le.2
  refine ⟨hm, ⟨by simp [h.size], ⟨by omega, by omega⟩, ?_, hexD (v % 16) :: L, by simp; omega, ?_, fun j b hj => ?_⟩⟩
  · have h1 := h.lt
    rw [show m - 48 = (m - 1 - 48) + 1 by omega, Nat.pow_succ] at h1
    omega
  · rw [l2, fmt16, dif_neg (by omega), List.append_assoc]
    rfl
  · rw [show m - 1 + 1 + j = m + j by omega]
    cases j with
    | zero =>
      simp at hj
      subst hj
      rw [Nat.add_zero, Array.getElem?_setIfInBounds, if_pos rfl, if_pos (by rw [h.size]; omega)]
    | succ j =>
      rw [Array.getElem?_setIfInBounds, if_neg (by omega), show m + (j + 1) = m + 1 + j by omega]
      exact l3 j b (by simpa using hj)
theorem Dig.last {u v m : Nat} {cur : Array Value} (h : Dig u v m cur) (hv : v < 16) : (fmt16 u).length = 65 - m ∧ ∀ (j : Nat) (b : UInt8), (fmt16 u)[j]? = some b → (cur.setIfInBounds m (.int .u8 (hexD v).toNat))[m + j]? = some (.int .u8 b.toNat) := by
  obtain ⟨L, l1, l2, l3⟩ := h.done
  have h64 := h.le.2
  rw [l2, fmt16, dif_pos hv]
  refine ⟨by simp; omega, fun j b hj => ?_⟩
  cases j with
  | zero =>
    simp at hj
    subst hj
    rw [Nat.add_zero, Array.getElem?_setIfInBounds, if_pos rfl, if_pos (by rw [h.size]; omega)]
  | succ j =>
    rw [Array.getElem?_setIfInBounds, if_neg (by omega), show m + (j + 1) = m + 1 + j by omega]
    exact l3 j b (by simpa using hj)
abbrev hexTab : ByteArray := ⟨#[48, 49, 50, 51, 52, 53, 54, 55, 56, 57, 97, 98, 99, 100, 101, 102, 103, 104, 105, 106, 107, 108, 109, 110, 111, 112, 113, 114, 115, 116, 117, 118, 119, 120, 121, 122]⟩
theorem hexTab_at (n : Nat) (h : n < 16) (h' : n < hexTab.size) : hexTab[n]'h' = hexD n := by
  have : ∀ k : Fin 16, hexTab.data.toList[k.val]? = some (hexD k.val) := by decide +kernel
  have h1 := this ⟨n, h⟩
  simp only at h1
  obtain ⟨h2, h3⟩ := List.getElem?_eq_some_iff.1 h1
  exact h3
theorem and15 (v : Nat) (h : v < 16 ^ 16) : bits BinOp.and IntKind.u64 v 15 = ((v % 16 : Nat) : Int) := by
  have h1 : (BitVec.ofInt 64 (v : Int) &&& BitVec.ofInt 64 15).toNat = v % 16 := by
    rw [BitVec.toNat_and, show (BitVec.ofInt 64 15).toNat = 2 ^ 4 - 1 by decide, Nat.and_two_pow_sub_one_eq_mod, BitVec.toNat_ofInt]
    simp only [Nat.reducePow]
    omega
  show IntKind.u64.wrap ((BitVec.ofInt 64 (v : Int) &&& BitVec.ofInt 64 15).toNat : Int) = _
  rw [h1, IntKind.wrap_u64]
  omega
theorem fmtBits (u : Nat) (hu : u < 16 ^ 16) (w : World) (h : w.cell? ⟨5, 15, none⟩ = some (.int .u8 4)) : Calls Tryz.prog 49 #[.slice none 0 0, .int .u64 u, .int .i64 16, .bool false, .bool false] w fun e w' => e = .returned (.tuple #[.slice none 0 0, .string ⟨(fmt16 u).toArray⟩]) ∧ ∃ cur, w' = w.alloc (.cells cur 104) := by
  have h' : ∀ o, (w.alloc o).cell? ⟨5, 15, none⟩ = some (.int .u8 4) := fun o => by
    exact Lib.cell?_alloc_marked o h
  have hal : Tryz.prog.arrayLen 104 = 65 := by kernel_rfl
  go_enter Tryz.func49, Tryz.ntmps49
  go_wp2_with (first | (go_at_call 73; refine (pow2_eq _).mono ?_; rintro e w' ⟨rfl, rfl⟩) | (go_at_call 74; refine (tz_eq _ (h' _)).mono ?_; rintro e w' ⟨rfl, rfl⟩))
  go_loopw [1, 13] (fun vu vi wr => ∃ (v m : Nat) (cur : Array Value), vu = .int .u64 v ∧ vi = .int .i64 ((m : Int) + 1) ∧ wr = w.alloc (.cells cur 104) ∧ Hid (Dig u v m cur)) (fun vu _ _ => (RowKit.intOf vu).toNat)
  case atStart => exact ⟨u, 64, _, rfl, rfl, rfl, ⟨by decide +kernel, by omega, hu, [], rfl, by simp, fun j b h => by simp at h⟩⟩
  case round =>
    obtain ⟨v, m, cur, rfl, rfl, rfl, HD⟩ := hrel
    have hsz := HD.out.size
    have hm := HD.out.le
    obtain ⟨x, hx⟩ : ∃ x, cur[m]? = some x := ⟨cur[m], by simp⟩
    by_cases h16 : 16 ≤ v
    · have hnd : bits BinOp.and IntKind.u64 v 15 = ((v % 16 : Nat) : Int) := and15 v (by have := HD.out.lt; have h2 : 16 ^ (m - 48) ≤ 16 ^ 16 := Nat.pow_le_pow_right (by omega) (by omega); omega)
      have hlt : ((v % 16 : Nat) : Int) < 36 := by omega
      obtain ⟨hm50, HN⟩ := HD.out.next h16
      go_wp2
      go_roundw
      case rel => exact ⟨v / 16, m - 1, _, by simp, by congr 1; omega, rfl, by rw [hexTab_at (v % 16) (by omega)]; exact HN⟩
      case measure => simp only [RowKit.intOf]; omega
    · have hsl : ∀ W, (Instr.sliceAt 104 (.pointer (some ⟨w.heap.size, 0, none⟩)) (some (.int .i64 (m : Int))) none none).run Tryz.prog W = .ok (.slice (some ⟨w.heap.size, m, none⟩) (65 - m) (65 - m)) W := fun W => by
        rw [run_sliceAt_array_l W 104 ⟨w.heap.size, 0, none⟩ (by simp [Program.arrayLen, Program.elem, Tryz.underlying104]) .i64 (m : Int) (by omega) (by rw [hal]; omega)]
        go_simp
        omega
      have hv16 : v < 16 := by omega
      have hv36 : v < hexTab.size := by show v < 36; omega
      obtain ⟨hl, hD⟩ := HD.out.last hv16
      have hcv : (convert 22 9 (.slice (some ⟨w.heap.size, m, none⟩) (65 - m) (65 - m))).run Tryz.prog (w.alloc (.cells (cur.setIfInBounds m (.int .u8 ((hexTab[v]'hv36).toNat : Int))) 104)) = .ok (.string ⟨(fmt16 u).toArray⟩) (w.alloc (.cells (cur.setIfInBounds m (.int .u8 ((hexTab[v]'hv36).toNat : Int))) 104)) := by
        rw [hexTab_at v hv16, ← hl]
        exact run_convert_bytes_back (P := Tryz.prog) _ 22 9 5 ⟨w.heap.size, m, none⟩ _ (fmt16 u) Tryz.underlying22 Tryz.underlying5 Tryz.underlying9 fun j hj => by
          rw [Lib.add_plain, World.cell?_alloc_new]
          exact hD j _ (List.getElem?_eq_getElem hj)
      go_wp2
      go_ret2
      exact ⟨by simp, _, rfl⟩
theorem fmtUint' (u : Nat) (hu : u < 16 ^ 16) (w : World) (h : w.cell? ⟨5, 15, none⟩ = some (.int .u8 4)) : Calls Tryz.prog 29 #[.int .u64 u, .int .i64 16] w fun e w' => e = .returned (.string ⟨(fmt16 u).toArray⟩) ∧ ∃ cur, w' = w.alloc (.cells cur 104) := by
  go_enter Tryz.func29, Tryz.ntmps29
  go_wp2_with (go_at_call 49; refine (fmtBits u hu _ h).mono ?_; rintro e w' ⟨rfl, cur, rfl⟩)
  go_ret
  exact ⟨by simp, cur, rfl⟩
theorem fmtUint (u : Nat) (hu : u < 16 ^ 16) (w : World) (h : w.cell? ⟨5, 15, none⟩ = some (.int .u8 4)) : Calls Tryz.prog 13 #[.int .u64 u, .int .i64 16] w fun e w' => e = .returned (.string ⟨(fmt16 u).toArray⟩) ∧ ∃ cur, w' = w.alloc (.cells cur 104) := by
  go_enter Tryz.func13, Tryz.ntmps13
  go_wp2_with (go_at_call 29; refine (fmtUint' u hu _ h).mono ?_; rintro e w' ⟨rfl, cur, rfl⟩)
  go_ret
  exact ⟨by simp, cur, rfl⟩
end Go.Proofs.YtkjgmjocikmplaaGreatDoor
