/- The rule for a slice that is written out. -/
import Derived.Test.YtdopillligfdiaaDoorSteps
namespace Go.Proofs.YtdopillligfdiaaDoor
set_option linter.unusedSimpArgs false
set_option linter.unusedVariables false
open Go.RowKit

theorem foldSet_get {off : Nat} : ∀ (l : List Value) (k : Nat) (arr : Array Value), off + k + l.length ≤ arr.size → ∀ i, ((l.zipIdx k).foldl (fun cs (x : Value × Nat) => cs.setIfInBounds (off + x.2) x.1) arr)[i]? =
    if off + k ≤ i ∧ i < off + k + l.length then l[i - (off + k)]? else arr[i]?
  | [], k, arr, h, i => by
    simp only [List.zipIdx_nil, List.foldl_nil, List.length_nil, Nat.add_zero]
    rw [if_neg (by omega)]
  | c :: l, k, arr, h, i => by
    simp only [List.length_cons] at h
    simp only [List.zipIdx_cons, List.foldl_cons]
    rw [foldSet_get l (k + 1) _ (by simp; omega) i]
    simp only [List.length_cons]
    by_cases h1 : i = off + k
    · subst h1
      rw [if_neg (by omega), if_pos (by omega)]
      rw [Array.getElem?_setIfInBounds]
      simp
      omega
    · by_cases h2 : off + k ≤ i ∧ i < off + k + (l.length + 1)
      · rw [if_pos (by omega), if_pos h2]
        have e : i - (off + k) = (i - (off + (k + 1))) + 1 := by omega
        rw [e, List.getElem?_cons_succ]
      · rw [if_neg (by omega), if_neg h2, Array.getElem?_setIfInBounds_ne (by omega)]
theorem foldSet {off : Nat} (l : List Value) (arr : Array Value) (h : off + l.length ≤ arr.size) :
    (l.toArray.zipIdx.foldl (fun cs (x : Value × Nat) => cs.setIfInBounds (off + x.2) x.1) arr) = (arr.toList.take off ++ l ++ arr.toList.drop (off + l.length)).toArray := by
  have h0 : (l.toArray.zipIdx.foldl (fun cs (x : Value × Nat) => cs.setIfInBounds (off + x.2) x.1) arr) = (l.zipIdx 0).foldl (fun cs (x : Value × Nat) => cs.setIfInBounds (off + x.2) x.1) arr := by
    rw [← Array.foldl_toList]; simp
  rw [h0]
  apply Array.ext_getElem?
  intro i
  rw [foldSet_get l 0 arr (by omega) i]
  simp only [Nat.add_zero, List.getElem?_toArray]
  by_cases h2 : off ≤ i ∧ i < off + l.length
  · rw [if_pos h2, List.append_assoc, List.getElem?_append_right (by simp; omega), List.getElem?_append_left (by simp; omega)]
    congr 1
    simp
    omega
  · rw [if_neg h2]
    by_cases h3 : i < off
    · rw [List.append_assoc, List.getElem?_append_left (by simp; omega), List.getElem?_take, if_pos h3]; simp
    · rw [List.getElem?_append_right (by simp; omega), List.getElem?_drop]
      simp
      congr 1
      omega
theorem fill_rows {size : Nat} : ∀ (vals : List Value) (k : Nat) (cells : Array Value), (∀ v ∈ vals, v.cells.size = size) → cells.size = (k + vals.length) * size →
    Instr.fill (fun i => some (i * size, size)) cells (vals.zipIdx k |>.map fun x => (x.2, x.1)) = some (cells.toList.take (k * size) ++ (vals.map fun v => v.cells.toList).flatten).toArray
  | [], k, cells, _, hs => by
    simp only [List.zipIdx_nil, List.map_nil, Instr.fill, List.flatten_nil, List.append_nil]
    rw [List.take_of_length_le (by simp at hs ⊢; omega)]
  | v :: vals, k, cells, hv, hs => by
    have h1 := hv v (by simp)
    simp only [List.zipIdx_cons, List.map_cons, Instr.fill]
    have h3 : (k + (v :: vals).length) * size = k * size + size + vals.length * size := by
      simp only [List.length_cons, Nat.add_mul]; omega
    rw [h3] at hs
    have hb : (v.cells.size ≠ size || decide (k * size + v.cells.size > cells.size)) = false := by
      simp [h1]; omega
    rw [if_neg (by rw [hb]; simp)]
    have hvl : v.cells.toList.length = size := by simpa using h1
    have hfold := foldSet (off := k * size) v.cells.toList cells (by rw [hvl]; omega)
    simp only [Array.toArray_toList] at hfold
    rw [hfold]
    rw [fill_rows vals (k + 1) _ (fun u hu => hv u (by simp [hu])) (by
      simp only [List.size_toArray, List.length_append, List.length_take, List.length_drop, Array.length_toList, hvl, Nat.add_mul]
      omega)]
    simp only [List.map_cons, List.flatten_cons, Option.some.injEq]
    congr 1
    have e : (k + 1) * size = (cells.toList.take (k * size) ++ v.cells.toList).length := by
      simp only [List.length_append, List.length_take, Array.length_toList, hvl, Nat.add_mul]; omega
    rw [e, List.take_left, List.append_assoc]
section
variable {P : Program} {Q : Exit → Act → World → Prop} {K : Act → World → Prop} {a : Act} {w : World}
  {dst : Option Tmp} {ty : TypeId} {pos : String} {after : Array Edge} {guard : Option (Nat × Bool)} {ops : Array Oper} {rest : List Oper} {ss : List Spec} {fs : List (World → Prop)}
theorem r_buildSlice {t e n m : Nat} {zc : List Value} [i : TSlice P t e] [z : TSize P e n] [zz : TZer P e zc] {xs : List Operand} {parts : Array (Nat × Operand)} {vals : List Value} {rows : List (List Value)} (hp : parts = (xs.zipIdx.map fun x => (x.2, x.1)).toArray) (hm : xs.length = m) (hx : xs.map a.eval = vals)
    (hr : (vals.map fun v => v.cells.toList) = rows) (hn : (rows.all fun r => r.length == n) = true) (hz : (decide (0 < n) && decide (m * n ≤ 16777216)) = true)
    (hk : ∀ g w', Blk w' g e rows.flatten.toArray → Ext w w' → g = w.heap.size → K (a.put dst (.slice (some ⟨g, 0, none⟩) m m)) w') : (Oper.mk dst (.buildSlice t m parts) ty pos after guard).wp P a w K Q := by
  have h := hk w.heap.size (w.alloc (.cells rows.flatten.toArray e)) (Blk.new _ _ _) (Ext.alloc _ _) rfl
  have hz0 := zz.h
  simp only [Bool.and_eq_true, decide_eq_true_eq] at hz
  have hvs : ∀ v ∈ vals, v.cells.size = n := by
    intro v hv
    have h1 : v.cells.toList ∈ rows := by rw [← hr]; exact List.mem_map_of_mem hv
    have := List.all_eq_true.1 hn _ h1
    simpa using this
  have hlen : vals.length = m := by rw [← hx, List.length_map, hm]
  unfold Oper.wp
  cases hi : P.info? e with
  | none => simp [hi] at hz0
  | some inf =>
    obtain ⟨z0, hzz⟩ : ∃ z0, inf.zero = some z0 := by cases hq : inf.zero with | none => simp [hi, hq] at hz0 | some z => exact ⟨z, rfl⟩
    have hpos : 0 < m * n ∨ m * n = 0 := by omega
    have key : ∀ Z : Array Value, Z.size = m * n → Instr.fill (fun i => some (i * n, n)) Z (parts.map fun (i, x) => (i, a.eval x)).toList = some rows.flatten.toArray := by
      intro Z hZ
      have e1 : (parts.map fun (i, x) => (i, a.eval x)).toList = (vals.zipIdx.map fun x => (x.2, x.1)) := by
        rw [hp, ← hx]
        simp [List.zipIdx_map, List.map_map, Function.comp_def]
      rw [e1, fill_rows vals 0 Z hvs (by rw [hZ, hlen]; simp)]
      simp [hr]
    have e : (execOp a.eval (Oper.mk dst (.buildSlice t m parts) ty pos after guard)).run P w = .ok (.value (.slice (some ⟨w.heap.size, 0, none⟩) m m)) (w.alloc (.cells rows.flatten.toArray e)) := by
      simp only [execOp, Instr.buildSlice, Sem.run_bind, run_underlying i.h, Result.andThen_ok, run_sizeOf_of z.sz]
      rw [if_neg (by omega)]
      rcases Nat.eq_zero_or_pos (m * n) with h0 | h0
      · simp only [h0, if_true, Sem.run_bind, Sem.run_pure, Result.andThen_ok]
        rw [key _ (by simp [h0])]
        simp [newRow]
      · have hne : ¬ m * n = 0 := by omega
        simp only [hne, if_false, Sem.run_bind, zeroValue, typeInfo, run_program, hi, hzz, Sem.run_pure, Result.andThen_ok]
        rw [key _ (by simp)]
        simp [newRow]
    rw [e]
    exact h
theorem l_buildSlice {t e n m : Nat} {zc : List Value} [i : TSlice P t e] [z : TSize P e n] [zz : TZer P e zc] {xs : List Operand} {parts : Array (Nat × Operand)} {vals : List Value} {rows : List (List Value)} (hp : parts = (xs.zipIdx.map fun x => (x.2, x.1)).toArray) (hm : xs.length = m) (hx : xs.map a.eval = vals)
    (hr : (vals.map fun v => v.cells.toList) = rows) (hn : (rows.all fun r => r.length == n) = true) (hz : (decide (0 < n) && decide (m * n ≤ 16777216)) = true)
    (hk : ∀ g w', Blk w' g e rows.flatten.toArray → Ext w w' → g = w.heap.size → wpList P ops Q rest (a.put dst (.slice (some ⟨g, 0, none⟩) m m)) w') : wpList P ops Q (Oper.mk dst (.buildSlice t m parts) ty pos after none :: rest) a w :=
  wpList_plain rfl fun _ hK => r_buildSlice hp hm hx hr hn hz fun g w' h2 h3 h4 => hK _ _ (hk g w' h2 h3 h4)
def Spec.blkN (n : Nat) (sh : Nat → Value) (t : TypeId) (cs : Array Value) : Spec := ⟨fun u => sh u.1, fun u w => Blk w u.1 t cs ∧ n ≤ u.1, fun _ _ _ h k => ⟨k.1.ext h, k.2⟩⟩
theorem p_buildSlice {t e n m : Nat} {zc : List Value} [i : TSlice P t e] [z : TSize P e n] [zz : TZer P e zc] {xs : List Operand} {parts : Array (Nat × Operand)} {vals : List Value} {rows : List (List Value)} (hp : parts = (xs.zipIdx.map fun x => (x.2, x.1)).toArray) (hm : xs.length = m) (hx : xs.map a.eval = vals)
    (hr : (vals.map fun v => v.cells.toList) = rows) (hn : (rows.all fun r => r.length == n) = true) (hz : (decide (0 < n) && decide (m * n ≤ 16777216)) = true)
    (hk : ∀ g, ParSteps P ops Q w rest ss (fs ++ [fun w' => Blk w' g e rows.flatten.toArray ∧ w.heap.size ≤ g]) (a.put dst (.slice (some ⟨g, 0, none⟩) m m))) :
    ParSteps P ops Q w (Oper.mk dst (.buildSlice t m parts) ty pos after none :: rest) (Spec.blkN w.heap.size (fun g => .slice (some ⟨g, 0, none⟩) m m) e rows.flatten.toArray :: ss) fs a := by
  refine par_unk rfl (fun w1 hw1 _ K hK => ?_) (fun u => hk u.1)
  exact r_buildSlice hp hm hx hr hn hz fun g w' h2 h3 h4 => hK (g, 0, undef) w' ⟨h2, by rw [h4]; exact hw1.sizeOf⟩ h3
theorem p_boxN {x : Operand} {t : TypeId} {cs : List Value} (hx : a.eval x = .agg cs.toArray) (hk : ∀ g, ParSteps P ops Q w rest ss (fs ++ [fun w' => Blk w' g t cs.toArray ∧ w.heap.size ≤ g]) (a.put dst (.pointer (some ⟨g, 0, none⟩)))) :
    ParSteps P ops Q w (Oper.mk dst (.box t x) ty pos after none :: rest) (Spec.blkN w.heap.size (fun g => .pointer (some ⟨g, 0, none⟩)) t cs.toArray :: ss) fs a := by
  refine par_unk rfl (fun w1 hw1 _ K hK => ?_) (fun u => hk u.1)
  exact r_boxN hx fun g w' h2 h3 h4 => hK (g, 0, undef) w' ⟨h2, by rw [h4]; exact hw1.sizeOf⟩ h3
/-- A call that returns a slice of which only the rows are known. -/
theorem p_enterS {f : FuncId} [e : Enters P f] {xl : List Operand} {al : List Value} {ts : Array TypeId} {n : Nat} {rows : List (List Value)} (hx : xl.map a.eval = al)
    (hc : ∀ w1, Ext w w1 → Calls P f al.toArray w1 (fun e w' => ∃ v, e = .returned v ∧ SlR w' n v rows ∧ Ext w1 w')) (hr : ∀ v, ParSteps P ops Q w rest ss (fs ++ [fun w' => SlR w' n v rows]) (a.put dst v)) :
    ParSteps P ops Q w (Oper.mk dst (.call ⟨.value (.func f), xl.toArray, ts⟩) ty pos after none :: rest) (Spec.some' (fun v w' => SlR w' n v rows) (fun _ _ _ h k => k.ext h) :: ss) fs a := by
  refine par_unk rfl (fun w1 hw1 _ K hK => ?_) (fun u => hr u.2.2)
  exact r_enter hx ((hc w1 hw1).mono fun e w' h => by obtain ⟨v, rfl, h1, h2⟩ := h; exact hK (0, 0, v) w' h1 h2)
theorem l_alloc {t : TypeId} {cs : List Value} [i : TZer P t cs] (hk : ∀ g w', Blk w' g t cs.toArray → Ext w w' → g = w.heap.size → wpList P ops Q rest (a.put dst (.pointer (some ⟨g, 0, none⟩))) w') :
    wpList P ops Q (Oper.mk dst (.alloc t) ty pos after none :: rest) a w :=
  wpList_plain rfl fun _ hK => r_alloc fun g w' h2 h3 h4 => hK _ _ (hk g w' h2 h3 h4)
theorem Ext.setRow {w w' : World} {g : Nat} {cs : Array Value} (h : Ext w w') (hg : w.heap.size ≤ g) : Ext w (w'.setRow g cs) :=
  Below.trans h ⟨rfl, rfl, rfl, by simp [World.setRow], fun k hk => setRow_other w' g k cs (by omega)⟩
/-- A new variable that is written at once. -/
theorem l_allocN {d : Nat} {t n : TypeId} {zc : List Value} [i : TZer P t zc] [r : TRow P t n] {y : Operand} {cs : List Value} {ty2 : TypeId} {pos2 : String} {after2 : Array Edge} (hd : ∀ p, (a.put (some d) p).eval (.tmp d) = p) (hy : ∀ p, (a.put (some d) p).eval y = .agg cs.toArray)
    (hn : (cs.length == n && zc.length == n && cs.all (·.oneCell')) = true)
    (hk : ∀ g w', Blk w' g t cs.toArray → Ext w w' → g = w.heap.size → wpList P ops Q rest ((a.put (some d) (.pointer (some ⟨g, 0, none⟩))).put none undef) w') :
    wpList P ops Q (Oper.mk (some d) (.alloc t) ty pos after none :: Oper.mk none (.store t (.tmp d) y) ty2 pos2 after2 none :: rest) a w := by
  simp only [Bool.and_eq_true, beq_iff_eq] at hn
  refine wpList_plain rfl fun K hK => r_alloc fun g w' h2 h3 h4 => hK _ _ ?_
  refine wpList_plain rfl fun K2 hK2 => ?_
  refine wp_store_row t (.tmp d) y rfl g cs.toArray (hd _) (hy _) t zc.toArray h2 (by rw [r.sz]; simp [hn.1.1]) (by simp [hn.1.1, hn.1.2]) (by simp [hn.2]) (hK2 _ _ ?_)
  exact hk g _ (setRow_heap w' g _ _ t _ h2) (Ext.setRow h3 (by omega)) h4
def fillL (pl : List (Nat × Nat)) : List Value → List (Nat × Value) → Option (List Value)
  | cells, [] => some cells
  | cells, (i, v) :: r => match pl[i]? with
    | some (off, sz) => if v.cells.toList.length = sz ∧ off + sz ≤ cells.length then fillL pl (cells.take off ++ v.cells.toList ++ cells.drop (off + sz)) r else none
    | none => none
theorem fillL_fill {pl : List (Nat × Nat)} : ∀ (vals : List (Nat × Value)) (cells cs : List Value), fillL pl cells vals = some cs → Instr.fill (pl.toArray[·]?) cells.toArray vals = some cs.toArray
  | [], cells, cs, h => by simp only [fillL, Option.some.injEq] at h; subst h; rfl
  | (i, v) :: r, cells, cs, h => by
    simp only [fillL] at h
    cases hp : pl[i]? with
    | none => rw [hp] at h; cases h
    | some x =>
      obtain ⟨off, sz⟩ := x
      rw [hp] at h
      simp only at h
      split at h
      · rename_i hc
        have ih := fillL_fill r _ cs h
        have hl : v.cells.size = sz := by simpa using hc.1
        have hb : (v.cells.size ≠ sz || decide (off + v.cells.size > cells.toArray.size)) = false := by
          simp [hl]; omega
        simp only [Instr.fill, List.getElem?_toArray, hp]
        rw [if_neg (by rw [hb]; simp)]
        have hfold := foldSet (off := off) v.cells.toList cells.toArray (by simp [hl]; omega)
        simp only [Array.toArray_toList] at hfold
        rw [hfold]
        have e : v.cells.toList.length = sz := hc.1
        rw [e]
        simpa using ih
      · cases h
theorem r_build {t : TypeId} {pl : List (Nat × Nat)} {zc : List Value} [s : TStruct P t pl] [zz : TZer P t zc] {parts : List (Nat × Operand)} {vals : List (Nat × Value)} {cs : List Value} (hx : (parts.map fun x => (x.1, a.eval x.2)) = vals) (hf : fillL pl zc vals = some cs)
    (hk : K (a.put dst (.agg cs.toArray)) w) : (Oper.mk dst (.build t parts.toArray) ty pos after guard).wp P a w K Q := by
  obtain ⟨fs, h1, h2⟩ := s.h
  have hz := zz.h
  refine wp_build t _ rfl ?_ ?_
  all_goals
    have e : P.built t ((parts.toArray.map fun (i, x) => (i, a.eval x)).toList) = some cs.toArray := by
      unfold Program.built
      cases hi : P.info? t with
      | none => simp [hi] at hz
      | some inf =>
        cases hzz : inf.zero with
        | none => simp [hi, hzz] at hz
        | some z =>
          have hzc : z.cells.toList = zc := by simpa [hi, hzz] using hz
          have hzc' : z.cells = zc.toArray := by rw [← hzc]
          simp only [h1, hzz, h2, hzc']
          have := fillL_fill vals zc cs hf
          rw [← hx] at this
          simpa using this
  · simp only [e, Option.isSome_some]
  · simp only [e, Option.getD_some]
    exact hk
theorem l_build {t : TypeId} {pl : List (Nat × Nat)} {zc : List Value} [s : TStruct P t pl] [zz : TZer P t zc] {parts : List (Nat × Operand)} {vals : List (Nat × Value)} {cs : List Value} (hx : (parts.map fun x => (x.1, a.eval x.2)) = vals) (hf : fillL pl zc vals = some cs)
    (hr : wpList P ops Q rest (a.put dst (.agg cs.toArray)) w) : wpList P ops Q (Oper.mk dst (.build t parts.toArray) ty pos after none :: rest) a w :=
  wpList_plain rfl fun _ hK => r_build hx hf (hK _ _ hr)
theorem p_build {t : TypeId} {pl : List (Nat × Nat)} {zc : List Value} [s : TStruct P t pl] [zz : TZer P t zc] {parts : List (Nat × Operand)} {vals : List (Nat × Value)} {cs : List Value} (hx : (parts.map fun x => (x.1, a.eval x.2)) = vals) (hf : fillL pl zc vals = some cs)
    (hr : ParSteps P ops Q w rest ss (fs ++ [fun _ => True]) (a.put dst (.agg cs.toArray))) : ParSteps P ops Q w (Oper.mk dst (.build t parts.toArray) ty pos after none :: rest) (Spec.det (.agg cs.toArray) :: ss) fs a :=
  par_val rfl (fun w1 hw1 K hK => r_build hx hf (hK _ (Ext.refl _))) hr
end
end Go.Proofs.YtdopillligfdiaaDoor
