/- Rules for single operations, for whatever program: what an operation leaves, from what its operands are. No search, no rewriting by hypotheses. -/
import Derived.Test.YtdopillligfdiaaDoorCore
namespace Go.Proofs.YtdopillligfdiaaDoor
set_option linter.unusedSimpArgs false
set_option linter.unusedVariables false
open Go.RowKit

theorem GS2 : (∀ v, G true v = v) ∧ (∀ v, G false v = undef) ∧ (∀ b, (true && b) = b) ∧ (∀ b, (b && true) = b) ∧ (∀ b, (false && b) = false) ∧ (∀ b, (b && false) = false) ∧ ((!true) = false) ∧ ((!false) = true) ∧ (decide True = true) ∧ (decide False = false) ∧
    (∀ b, (true || b) = true) ∧ (∀ b, (b || true) = true) ∧ (∀ b, (false || b) = b) ∧ (∀ b, (b || false) = b) :=
  ⟨GS.1, GS.2.1, GS.2.2.1, GS.2.2.2.1, GS.2.2.2.2.1, GS.2.2.2.2.2.1, rfl, rfl, by simp, by simp, GS.2.2.2.2.2.2.2.2.2.2.1, GS.2.2.2.2.2.2.2.2.2.2.2.1, GS.2.2.2.2.2.2.2.2.2.2.2.2.1, GS.2.2.2.2.2.2.2.2.2.2.2.2.2.1⟩
/-! ### What is asked of types and functions, by their numbers -/
def aggDesc : TypeDesc → Bool
  | .struct _ | .array _ _ => true
  | _ => false
class TInt (P : Program) (t : TypeId) (k : outParam IntKind) : Prop where
  h : P.underlying t = some (.int k)
class TStr (P : Program) (t : TypeId) : Prop where
  h : P.underlying t = some .string
class TBool (P : Program) (t : TypeId) : Prop where
  h : P.underlying t = some .bool
class TOne (P : Program) (t : TypeId) : Prop where
  h : ∃ d, P.underlying t = some d ∧ aggDesc d = false
  sz : (P.info? t).map (·.size) = some 1
class TRow (P : Program) (t : TypeId) (n : outParam Nat) : Prop where
  h : ∃ d, P.underlying t = some d ∧ aggDesc d = true
  sz : (P.info? t).map (·.size) = some n
class TSlice (P : Program) (t : TypeId) (e : outParam TypeId) : Prop where
  h : P.underlying t = some (.slice e)
class TSize (P : Program) (t : TypeId) (n : outParam Nat) : Prop where
  sz : (P.info? t).map (·.size) = some n
class TZer (P : Program) (t : TypeId) (cs : outParam (List Value)) : Prop where
  h : (P.info? t).map (fun i => i.zero.map (fun z => z.cells.toList)) = some (some cs)
class TStruct (P : Program) (t : TypeId) (pl : outParam (List (Nat × Nat))) : Prop where
  h : ∃ fs, P.underlying t = some (.struct fs) ∧ fs.toList.mapM (fun f => (P.info? f.type).map fun i => (f.offset, i.size)) = some pl
/-- Field i of a struct type: at which cell, of how many cells, whether it is an aggregate. -/
class TFld (P : Program) (t : TypeId) (i : Nat) (off n : outParam Nat) (agg : outParam Bool) : Prop where
  h : ∃ fs f d, P.underlying t = some (.struct fs) ∧ fs[i]? = some f ∧ f.offset = off ∧ P.underlying f.type = some d ∧ aggDesc d = agg ∧ (P.info? f.type).map (·.size) = some (n + 1)
class Enters (P : Program) (f : FuncId) : Prop where
  h : ∃ fn, P.funcs[f]? = some fn ∧ (fn.name == "runtime.NumGoroutine") = false ∧ fn.body.isNone = false

section
variable {P : Program} {w : World}
theorem run_sizeOf_of {t n : Nat} (h : (P.info? t).map (·.size) = some n) : (sizeOf t).run P w = .ok n w := by
  cases hi : P.info? t with
  | none => simp [hi] at h
  | some i =>
    have : i.size = n := by simpa [hi] using h
    simp [sizeOf, typeInfo, hi, this]
theorem run_isAgg_of {t : Nat} {d : TypeDesc} (h : P.underlying t = some d) : (isAgg t).run P w = .ok (aggDesc d) w := by
  unfold isAgg
  rw [Sem.run_bind, run_underlying h w]
  cases d <;> rfl
theorem run_callFunc {f : FuncId} [e : Enters P f] (args : Array Value) : (callFunc f args).run P w = .ok (.enter f args) w := by
  obtain ⟨fn, h1, h2, h3⟩ := e.h
  have h4 : fn.name ≠ "runtime.NumGoroutine" := by simpa using h2
  have h5 : fn.body ≠ none := by intro e; rw [e] at h3; cases h3
  simp [callFunc, h1, h4, h5]
end

section
variable {P : Program} {Q : Exit → Act → World → Prop} {K : Act → World → Prop} {a : Act} {w : World}
  {dst : Option Tmp} {ty : TypeId} {pos : String} {after : Array Edge} {guard : Option (Nat × Bool)}

theorem wp_run {o : Oper} {v : Value} (h : (execOp a.eval o).run P w = .ok (.value v) w) (hk : K (a.put o.dst v) w) : o.wp P a w K Q := by
  unfold Oper.wp; rw [h]; exact hk

theorem r_move {x : Operand} {v : Value} (hx : a.eval x = v) (hk : K (a.put dst v) w) : (Oper.mk dst (.move x) ty pos after guard).wp P a w K Q :=
  wp_run (by simp [execOp, hx]) hk
theorem r_assign {x : Operand} {v : Value} (hx : a.eval x = v) (hk : K (a.put dst v) w) : (Oper.mk dst (.assign x) ty pos after guard).wp P a w K Q :=
  wp_run (by simp [execOp, hx]) hk
theorem r_nilCheck {x : Operand} {p : Addr} (hx : a.eval x = .pointer (some p)) (hk : K (a.put dst (.pointer (some p))) w) : (Oper.mk dst (.nilCheck x) ty pos after guard).wp P a w K Q :=
  wp_run (by simp [execOp, hx]) hk
theorem r_extract {x : Operand} {i : Nat} {vs : List Value} {v : Value} (hx : a.eval x = .tuple vs.toArray) (hv : vs[i]? = some v) (hk : K (a.put dst v) w) : (Oper.mk dst (.extract x i) ty pos after guard).wp P a w K Q :=
  wp_run (by simp [execOp, hx, Instr.extract, hv]) hk
theorem r_not {x : Operand} {t : TypeId} {b : Bool} (hx : a.eval x = .bool b) (hk : K (a.put dst (.bool (!b))) w) : (Oper.mk dst (.unOp .not t x) ty pos after guard).wp P a w K Q :=
  wp_run (by simp [execOp, hx, Op.unary]) hk
/-! whole numbers -/
section
variable {x y : Operand} {t t' : TypeId} {k : IntKind} {p q : Int}
theorem int_run {op : BinOp} {v : Value} (hx : a.eval x = .int k p) (hy : a.eval y = .int k q) (hg : ∀ r, (binOp op t (.int k p) (.int k q)).run P w = .ok r w → r = v) (hr : (binOp op t (.int k p) (.int k q)).run P w = .ok v w)
    (hk : K (a.put dst v) w) : (Oper.mk dst (.binOp op t x y t') ty pos after guard).wp P a w K Q := by
  refine wp_run ?_ hk
  have he : (eqGuard op t x y (.int k p) (.int k q)).run P w = .ok () w := by
    unfold eqGuard
    cases op <;> simp
  simp only [execOp, hx, hy, Sem.run_bind, he, Result.andThen_ok, hr, Sem.run_pure]
theorem r_add {r : Int} (hx : a.eval x = .int k p) (hy : a.eval y = .int k q) (hr : k.wrap (p + q) = r) (hk : K (a.put dst (.int k r)) w) : (Oper.mk dst (.binOp .add t x y t') ty pos after guard).wp P a w K Q :=
  int_run hx hy (fun _ h => by simpa [binOp, Op.intArith, hr] using h.symm) (by simp [binOp, Op.intArith, hr]) hk
theorem r_sub {r : Int} (hx : a.eval x = .int k p) (hy : a.eval y = .int k q) (hr : k.wrap (p - q) = r) (hk : K (a.put dst (.int k r)) w) : (Oper.mk dst (.binOp .sub t x y t') ty pos after guard).wp P a w K Q :=
  int_run hx hy (fun _ h => by simpa [binOp, Op.intArith, hr] using h.symm) (by simp [binOp, Op.intArith, hr]) hk
theorem r_mul {r : Int} (hx : a.eval x = .int k p) (hy : a.eval y = .int k q) (hr : k.wrap (p * q) = r) (hk : K (a.put dst (.int k r)) w) : (Oper.mk dst (.binOp .mul t x y t') ty pos after guard).wp P a w K Q :=
  int_run hx hy (fun _ h => by simpa [binOp, Op.intArith, hr] using h.symm) (by simp [binOp, Op.intArith, hr]) hk
theorem r_quo {r : Int} (hx : a.eval x = .int k p) (hy : a.eval y = .int k q) (h0 : q ≠ 0) (hr : k.wrap (p.tdiv q) = r) (hk : K (a.put dst (.int k r)) w) : (Oper.mk dst (.binOp .quo t x y t') ty pos after guard).wp P a w K Q :=
  int_run hx hy (fun _ h => by simpa [binOp, Op.intDiv, hr, h0] using h.symm) (by simp [binOp, Op.intDiv, hr, h0]) hk
theorem r_rem {r : Int} (hx : a.eval x = .int k p) (hy : a.eval y = .int k q) (h0 : q ≠ 0) (hr : p.tmod q = r) (hk : K (a.put dst (.int k r)) w) : (Oper.mk dst (.binOp .rem t x y t') ty pos after guard).wp P a w K Q :=
  int_run hx hy (fun _ h => by simpa [binOp, Op.intDiv, hr, h0] using h.symm) (by simp [binOp, Op.intDiv, hr, h0]) hk
theorem r_neg {r : Int} (hx : a.eval x = .int k p) (hr : k.wrap (0 - p) = r) (hk : K (a.put dst (.int k r)) w) : (Oper.mk dst (.unOp .neg t x) ty pos after guard).wp P a w K Q :=
  wp_run (by simp only [execOp, hx, Op.unary, Op.intArith, hr, Sem.run_bind, Sem.run_pure, Result.andThen_ok]) hk
theorem r_eql (hx : a.eval x = .int k p) (hy : a.eval y = .int k q) (hk : K (a.put dst (.bool (p == q))) w) : (Oper.mk dst (.binOp .eql t x y t') ty pos after guard).wp P a w K Q :=
  int_run hx hy (fun _ h => by simpa [binOp, Op.intCmp] using h.symm) (by simp [binOp, Op.intCmp]) hk
theorem r_neq (hx : a.eval x = .int k p) (hy : a.eval y = .int k q) (hk : K (a.put dst (.bool (!(p == q)))) w) : (Oper.mk dst (.binOp .neq t x y t') ty pos after guard).wp P a w K Q :=
  int_run hx hy (fun _ h => by simpa [binOp, Op.intCmp, bne] using h.symm) (by simp [binOp, Op.intCmp, bne]) hk
theorem r_lss (hx : a.eval x = .int k p) (hy : a.eval y = .int k q) (hk : K (a.put dst (.bool (decide (p < q)))) w) : (Oper.mk dst (.binOp .lss t x y t') ty pos after guard).wp P a w K Q :=
  int_run hx hy (fun _ h => by simpa [binOp, Op.intCmp] using h.symm) (by simp [binOp, Op.intCmp]) hk
theorem r_leq (hx : a.eval x = .int k p) (hy : a.eval y = .int k q) (hk : K (a.put dst (.bool (decide (p ≤ q)))) w) : (Oper.mk dst (.binOp .leq t x y t') ty pos after guard).wp P a w K Q :=
  int_run hx hy (fun _ h => by simpa [binOp, Op.intCmp] using h.symm) (by simp [binOp, Op.intCmp]) hk
theorem r_gtr (hx : a.eval x = .int k p) (hy : a.eval y = .int k q) (hk : K (a.put dst (.bool (decide (q < p)))) w) : (Oper.mk dst (.binOp .gtr t x y t') ty pos after guard).wp P a w K Q :=
  int_run hx hy (fun _ h => by simpa [binOp, Op.intCmp] using h.symm) (by simp [binOp, Op.intCmp]) hk
theorem r_geq (hx : a.eval x = .int k p) (hy : a.eval y = .int k q) (hk : K (a.put dst (.bool (decide (q ≤ p)))) w) : (Oper.mk dst (.binOp .geq t x y t') ty pos after guard).wp P a w K Q :=
  int_run hx hy (fun _ h => by simpa [binOp, Op.intCmp] using h.symm) (by simp [binOp, Op.intCmp]) hk
theorem r_max {ts : Array TypeId} (hx : a.eval x = .int k p) (hy : a.eval y = .int k q) (hk : K (a.put dst (.int k (max p q))) w) : (Oper.mk dst (.call ⟨.builtin .max, #[x, y], ts⟩) ty pos after guard).wp P a w K Q := by
  refine wp_run ?_ hk
  have e : (if q > p then q else p) = max p q := by split <;> omega
  simp [execOp, resolve, invoke, builtin, hx, hy, Builtin.max_, Builtin.max2, e]
theorem r_min {ts : Array TypeId} (hx : a.eval x = .int k p) (hy : a.eval y = .int k q) (hk : K (a.put dst (.int k (min p q))) w) : (Oper.mk dst (.call ⟨.builtin .min, #[x, y], ts⟩) ty pos after guard).wp P a w K Q := by
  refine wp_run ?_ hk
  have e : (if q < p then q else p) = min p q := by split <;> omega
  simp [execOp, resolve, invoke, builtin, hx, hy, Builtin.min_, Builtin.min2, e]
theorem r_conv [i : TInt P t' k] {k' : IntKind} {r : Int} {s : TypeId} {d : TypeDesc} (hs : P.underlying s = some d) (hx : a.eval x = .int k' p) (hr : k.wrap p = r) (hk : K (a.put dst (.int k r)) w) : (Oper.mk dst (.convert s t' x) ty pos after guard).wp P a w K Q := by
  refine wp_run ?_ hk
  simp [execOp, hx, convert, run_underlying hs, run_underlying i.h, Conv.intToInt, hr]
theorem r_boolEq [i : TBool P t] {b c : Bool} (hx : a.eval x = .bool b) (hy : a.eval y = .bool c) (hk : K (a.put dst (.bool (b == c))) w) : (Oper.mk dst (.binOp .eql t x y t') ty pos after guard).wp P a w K Q := by
  refine wp_run ?_ hk
  have he : (eqGuard .eql t x y (.bool b) (.bool c)).run P w = .ok () w := by unfold eqGuard; simp
  have h2 : (Op.equal t (.bool b) (.bool c)).run P w = .ok (b == c) w := by
    show (Op.equalIn (9999 + 1) t (.bool b) (.bool c)).run P w = _
    unfold Op.equalIn
    rw [Sem.run_bind, run_underlying i.h]
    rfl
  have h3 : (binOp .eql t (.bool b) (.bool c)).run P w = .ok (.bool (b == c)) w := by
    show (do pure (Value.bool (← Op.equal t (.bool b) (.bool c))) : Sem Value).run P w = _
    rw [Sem.run_bind, h2]
    rfl
  simp only [execOp, hx, hy, Sem.run_bind, he, Result.andThen_ok, h3, Sem.run_pure]
theorem r_boolNe [i : TBool P t] {b c : Bool} (hx : a.eval x = .bool b) (hy : a.eval y = .bool c) (hk : K (a.put dst (.bool (!(b == c)))) w) : (Oper.mk dst (.binOp .neq t x y t') ty pos after guard).wp P a w K Q := by
  refine wp_run ?_ hk
  have he : (eqGuard .neq t x y (.bool b) (.bool c)).run P w = .ok () w := by unfold eqGuard; simp
  have h2 : (Op.equal t (.bool b) (.bool c)).run P w = .ok (b == c) w := by
    show (Op.equalIn (9999 + 1) t (.bool b) (.bool c)).run P w = _
    unfold Op.equalIn
    rw [Sem.run_bind, run_underlying i.h]
    rfl
  have h3 : (binOp .neq t (.bool b) (.bool c)).run P w = .ok (.bool (!(b == c))) w := by
    show (do pure (Value.bool (!(← Op.equal t (.bool b) (.bool c)))) : Sem Value).run P w = _
    rw [Sem.run_bind, h2]
    rfl
  simp only [execOp, hx, hy, Sem.run_bind, he, Result.andThen_ok, h3, Sem.run_pure]
end
/-! texts -/
section
variable {x y : Operand} {t t' : TypeId} {s u : List UInt8}
theorem str_run {op : BinOp} {v : Value} (hx : a.eval x = .string ⟨s.toArray⟩) (hy : a.eval y = .string ⟨u.toArray⟩) (hr : (binOp op t (.string ⟨s.toArray⟩) (.string ⟨u.toArray⟩)).run P w = .ok v w)
    (hk : K (a.put dst v) w) : (Oper.mk dst (.binOp op t x y t') ty pos after guard).wp P a w K Q := by
  refine wp_run ?_ hk
  have he : (eqGuard op t x y (.string ⟨s.toArray⟩) (.string ⟨u.toArray⟩)).run P w = .ok () w := by
    unfold eqGuard
    cases op <;> simp
  simp only [execOp, hx, hy, Sem.run_bind, he, Result.andThen_ok, hr, Sem.run_pure]
theorem r_cat (hx : a.eval x = .string ⟨s.toArray⟩) (hy : a.eval y = .string ⟨u.toArray⟩) (hl : s.length + u.length ≤ 9223372036854775807) (hk : K (a.put dst (.string ⟨(s ++ u).toArray⟩)) w) : (Oper.mk dst (.binOp .add t x y t') ty pos after guard).wp P a w K Q := by
  refine str_run hx hy ?_ hk
  have e : (ByteArray.mk s.toArray ++ ByteArray.mk u.toArray) = ByteArray.mk (s ++ u).toArray := by
    apply ByteArray.ext
    simp [ByteArray.data_append]
  have h1 : (ByteArray.mk s.toArray).size = s.length := by simp [ByteArray.size]
  have h2 : (ByteArray.mk u.toArray).size = u.length := by simp [ByteArray.size]
  have h3 : ¬ (((s.length + u.length : Nat) : Int) > IntKind.i64.max) := by
    have : IntKind.i64.max = 9223372036854775807 := by decide
    rw [this]; omega
  simp only [binOp, Op.stringOp, h1, h2, if_neg h3, e, Sem.run_pure]
theorem r_seql (hx : a.eval x = .string ⟨s.toArray⟩) (hy : a.eval y = .string ⟨u.toArray⟩) (hk : K (a.put dst (.bool (s == u))) w) : (Oper.mk dst (.binOp .eql t x y t') ty pos after guard).wp P a w K Q :=
  str_run hx hy (by simp [binOp, Op.stringOp]) hk
theorem r_sneq (hx : a.eval x = .string ⟨s.toArray⟩) (hy : a.eval y = .string ⟨u.toArray⟩) (hk : K (a.put dst (.bool (!(s == u)))) w) : (Oper.mk dst (.binOp .neq t x y t') ty pos after guard).wp P a w K Q :=
  str_run hx hy (by simp [binOp, Op.stringOp]) hk
theorem r_slss (hx : a.eval x = .string ⟨s.toArray⟩) (hy : a.eval y = .string ⟨u.toArray⟩) (hk : K (a.put dst (.bool (Op.bytesLess s u))) w) : (Oper.mk dst (.binOp .lss t x y t') ty pos after guard).wp P a w K Q :=
  str_run hx hy (by simp [binOp, Op.stringOp]) hk
theorem r_sleq (hx : a.eval x = .string ⟨s.toArray⟩) (hy : a.eval y = .string ⟨u.toArray⟩) (hk : K (a.put dst (.bool (Op.bytesLess s u || s == u))) w) : (Oper.mk dst (.binOp .leq t x y t') ty pos after guard).wp P a w K Q :=
  str_run hx hy (by simp [binOp, Op.stringOp]) hk
theorem r_len_str [i : TStr P t] (hx : a.eval x = .string ⟨s.toArray⟩) (hk : K (a.put dst (.int .i64 s.length)) w) : (Oper.mk dst (.call ⟨.builtin .len, #[x], #[t]⟩) ty pos after guard).wp P a w K Q := by
  refine wp_run ?_ hk
  have hz : (ByteArray.mk s.toArray).size = s.length := by simp [ByteArray.size]
  simp [execOp, resolve, invoke, builtin, hx, run_len_string w t ty _ i.h, goInt, hz]
theorem r_index_str [i : TStr P t] {k : IntKind} {n : Int} (hx : a.eval x = .string ⟨s.toArray⟩) (hy : a.eval y = .int k n) (h0 : 0 ≤ n) (h1 : n < s.length) (hk : K (a.put dst (.int .u8 (s.getD n.toNat 0).toNat)) w) : (Oper.mk dst (.index t x y) ty pos after guard).wp P a w K Q := by
  refine wp_run ?_ hk
  have hlt : n.toNat < s.length := by omega
  have hz : (ByteArray.mk s.toArray).size = s.length := by simp [ByteArray.size]
  have hz' : n.toNat < (ByteArray.mk s.toArray).size := by rw [hz]; exact hlt
  have e : (ByteArray.mk s.toArray)[n.toNat]? = some (s.getD n.toNat 0) := by
    rw [ByteArray.getElem?_lt' _ _ hz']
    simp [List.getD_eq_getElem?_getD, hlt]
    rfl
  simp [execOp, hx, hy, Instr.index, asIntOf, run_underlying i.h, h0, e]
theorem r_slice_str [i : TStr P t] {lo hi : Option Operand} {l h : Nat} (hx : a.eval x = .string ⟨s.toArray⟩)
    (hl : match lo with | none => l = 0 | some o => ∃ k : IntKind, a.eval o = .int k (l : Int)) (hh : match hi with | none => h = s.length | some o => ∃ k : IntKind, a.eval o = .int k (h : Int)) (h1 : l ≤ h) (h2 : h ≤ s.length)
    (hk : K (a.put dst (.string ⟨((s.take h).drop l).toArray⟩)) w) : (Oper.mk dst (.slice t x lo hi none) ty pos after guard).wp P a w K Q := by
  refine wp_run ?_ hk
  have hz : (ByteArray.mk s.toArray).size = s.length := by simp [ByteArray.size]
  have e : (ByteArray.mk s.toArray).extract l h = ByteArray.mk ((s.take h).drop l).toArray := by
    rw [ByteArray.extract_mk, List.drop_take]
  cases lo with
  | none =>
    simp only at hl
    subst hl
    cases hi with
    | none =>
      simp only at hh
      subst hh
      simp [execOp, hx, Instr.sliceAt, Instr.slice, Instr.sliceBounds, run_underlying i.h, hz, e]
    | some o =>
      obtain ⟨k, hk'⟩ := hh
      have hb : (0 : Int) ≤ h ∧ (h : Int) ≤ s.length := by omega
      simp [execOp, hx, Instr.sliceAt, Instr.slice, Instr.sliceBounds, Instr.sliceBound, asIntOf, run_underlying i.h, hz, e, hk', h2]
  | some o =>
    obtain ⟨k, hk'⟩ := hl
    cases hi with
    | none =>
      simp only at hh
      subst hh
      simp [execOp, hx, Instr.sliceAt, Instr.slice, Instr.sliceBounds, Instr.sliceBound, asIntOf, run_underlying i.h, hz, e, hk', h1]
    | some o' =>
      obtain ⟨k', hk''⟩ := hh
      simp [execOp, hx, Instr.sliceAt, Instr.slice, Instr.sliceBounds, Instr.sliceBound, asIntOf, run_underlying i.h, hz, e, hk', hk'', h1, h2]
end
/-! parts of aggregates -/
theorem r_field1 {x : Operand} {t : TypeId} {i off n : Nat} [f : TFld P t i off n false] {cs : List Value} {v : Value} (hx : a.eval x = .agg cs.toArray) (hv : cs[off]? = some v) (hk : K (a.put dst v) w) : (Oper.mk dst (.field t x i) ty pos after guard).wp P a w K Q := by
  obtain ⟨fs, f, d, h1, h2, h3, h4, h5, h6⟩ := f.h
  refine wp_run ?_ hk
  simp [execOp, hx, Instr.field, run_underlying h1, h2, asAgg, part, run_isAgg_of h4, h5, h3, hv]
theorem r_fieldN {x : Operand} {t : TypeId} {i off n : Nat} [f : TFld P t i off n true] {cs : List Value} (hx : a.eval x = .agg cs.toArray) (hk : K (a.put dst (.agg ((cs.drop off).take (n + 1)).toArray)) w) : (Oper.mk dst (.field t x i) ty pos after guard).wp P a w K Q := by
  obtain ⟨fs, f, d, h1, h2, h3, h4, h5, h6⟩ := f.h
  refine wp_run ?_ hk
  have e : cs.toArray.extract off (off + (n + 1)) = ((cs.drop off).take (n + 1)).toArray := by simp [List.drop_take]
  simp only [execOp, hx, Instr.field, run_underlying h1, h2, asAgg, part, run_isAgg_of h4, h5, h3, run_sizeOf_of h6, Sem.run_bind, Sem.run_pure, Result.andThen_ok, if_true, e]
theorem r_fieldAddr {x : Operand} {t : TypeId} {i off n : Nat} {ag : Bool} [f : TFld P t i off n ag] {b p : Nat} (hx : a.eval x = .pointer (some ⟨b, p, none⟩)) (hk : K (a.put dst (.pointer (some ⟨b, p + off, none⟩))) w) : (Oper.mk dst (.fieldAddr t x i) ty pos after guard).wp P a w K Q := by
  obtain ⟨fs, f, d, h1, h2, h3, h4, h5, h6⟩ := f.h
  refine wp_run ?_ hk
  have e : (⟨b, p, none⟩ : Addr).add off = ⟨b, p + off, none⟩ := by unfold Addr.add; split <;> simp_all
  simp [execOp, hx, Instr.fieldAt, run_underlying h1, h2, Instr.sureAddr, fieldPlace, run_sizeOf_of h6, h3, e]
/-! memory -/
theorem r_load1 {x : Operand} {t : TypeId} [i : TOne P t] {p : Addr} {v : Value} (hx : a.eval x = .pointer (some p)) (hc : w.cell? p = some v) (hk : K (a.put dst v) w) : (Oper.mk dst (.load t x) ty pos after guard).wp P a w K Q := by
  obtain ⟨d, h1, h2⟩ := i.h
  refine wp_run ?_ hk
  simp [execOp, hx, Instr.loadAt, Instr.sureAddr, loadVar, run_isAgg_of h1, h2, hc]
theorem r_loadN {x : Operand} {t n : Nat} [i : TRow P t n] {b p : Nat} {cs : List Value} (hx : a.eval x = .pointer (some ⟨b, p, none⟩)) (hc : RowAt w b p cs) (hn : cs.length = n) (hk : K (a.put dst (.agg cs.toArray)) w) : (Oper.mk dst (.load t x) ty pos after guard).wp P a w K Q := by
  obtain ⟨d, h1, h2⟩ := i.h
  refine wp_load_at t x b p cs d rfl hx hc h1 (by cases d <;> simp_all [aggDesc]) (by rw [i.sz, hn]) hk
theorem r_indexAddr {x y : Operand} {t e n : Nat} [i : TSlice P t e] [z : TSize P e n] {b p l c : Nat} {k : IntKind} {j : Int} (hx : a.eval x = .slice (some ⟨b, p, none⟩) l c) (hy : a.eval y = .int k j) (h0 : 0 ≤ j) (h1 : j < l)
    (hk : K (a.put dst (.pointer (some ⟨b, p + j.toNat * n, none⟩))) w) : (Oper.mk dst (.indexAddr t x y) ty pos after guard).wp P a w K Q := by
  refine wp_run ?_ hk
  have e : (⟨b, p, none⟩ : Addr).add (j.toNat * n) = ⟨b, p + j.toNat * n, none⟩ := by unfold Addr.add; split <;> simp_all
  simp [execOp, hx, hy, Instr.indexAt, asIntOf, run_underlying i.h, h0, h1, run_sizeOf_of z.sz, e]
theorem r_len_slice {x : Operand} {t e : Nat} [i : TSlice P t e] {A : Option Addr} {l c : Nat} (hx : a.eval x = .slice A l c) (hk : K (a.put dst (.int .i64 l)) w) : (Oper.mk dst (.call ⟨.builtin .len, #[x], #[t]⟩) ty pos after guard).wp P a w K Q := by
  refine wp_run ?_ hk
  simp [execOp, resolve, invoke, builtin, hx, Builtin.len_, run_underlying i.h, goInt]
theorem r_box {x : Operand} {t : TypeId} {v : Value} (hx : a.eval x = v) (hk : ∀ g w', Blk w' g t v.cells → Ext w w' → g = w.heap.size → K (a.put dst (.pointer (some ⟨g, 0, none⟩))) w') : (Oper.mk dst (.box t x) ty pos after guard).wp P a w K Q := by
  have h := hk w.heap.size (w.alloc (.cells v.cells t)) (Blk.new _ _ _) (Ext.alloc _ _) rfl
  unfold Oper.wp
  have e : (execOp a.eval (Oper.mk dst (.box t x) ty pos after guard)).run P w = .ok (.value (.pointer (some ⟨w.heap.size, 0, none⟩))) (w.alloc (.cells v.cells t)) := by
    simp [execOp, hx, Instr.box, newVar, newRow]
  rw [e]
  exact h
theorem r_alloc {t : TypeId} {cs : List Value} [i : TZer P t cs] (hk : ∀ g w', Blk w' g t cs.toArray → Ext w w' → g = w.heap.size → K (a.put dst (.pointer (some ⟨g, 0, none⟩))) w') : (Oper.mk dst (.alloc t) ty pos after guard).wp P a w K Q := by
  have h := hk w.heap.size (w.alloc (.cells cs.toArray t)) (Blk.new _ _ _) (Ext.alloc _ _) rfl
  have hz := i.h
  unfold Oper.wp
  have e : (execOp a.eval (Oper.mk dst (.alloc t) ty pos after guard)).run P w = .ok (.value (.pointer (some ⟨w.heap.size, 0, none⟩))) (w.alloc (.cells cs.toArray t)) := by
    cases hi : P.info? t with
    | none => simp [hi] at hz
    | some inf =>
      cases hzz : inf.zero with
      | none => simp [hi, hzz] at hz
      | some z =>
        have hzc : z.cells.toList = cs := by simpa [hi, hzz] using hz
        have hzc' : z.cells = cs.toArray := by rw [← hzc]
        simp [execOp, Instr.alloc, zeroValue, typeInfo, hi, hzz, newVar, newRow, hzc']
  rw [e]
  exact h
/-! calls -/
theorem r_call {f : FuncId} [e : Enters P f] {xs : Array Operand} {ts : Array TypeId} {args : Array Value} {R : Ending → World → Prop} (hc : Calls P f args w R) (hx : xs.map a.eval = args)
    (hk : ∀ e w', R e w' → match e with | .returned v => K (a.put dst v) w' | .panicked ch => Q (.panic ch) a w' | .outgrown => LetsOut Q) : (Oper.mk dst (.call ⟨.value (.func f), xs, ts⟩) ty pos after guard).wp P a w K Q := by
  subst hx
  have e : (execOp a.eval (Oper.mk dst (.call ⟨.value (.func f), xs, ts⟩) ty pos after guard)).run P w = .ok (.enter f (xs.map a.eval)) w := by
    simp [execOp, resolve, Act.eval, Deferred.ofValue, invoke, run_callFunc]
  unfold Oper.wp
  rw [e]
  refine Calls.mono hc fun en w' hr => ?_
  have := hk en w' hr
  cases en <;> exact this
theorem r_enter {f : FuncId} [e : Enters P f] {xl : List Operand} {al : List Value} {ts : Array TypeId} (hx : xl.map a.eval = al)
    (hc : Calls P f al.toArray w (fun e w' => match e with | .returned v => K (a.put dst v) w' | .panicked ch => Q (.panic ch) a w' | .outgrown => LetsOut Q)) : (Oper.mk dst (.call ⟨.value (.func f), xl.toArray, ts⟩) ty pos after guard).wp P a w K Q :=
  r_call hc (by rw [← hx]; simp) fun e w' h => by cases e <;> exact h
theorem r_box1 {x : Operand} {t : TypeId} {v : Value} (hx : a.eval x = v) (h1 : v.oneCell' = true) (hk : ∀ g w', Blk w' g t [v].toArray → Ext w w' → g = w.heap.size → K (a.put dst (.pointer (some ⟨g, 0, none⟩))) w') : (Oper.mk dst (.box t x) ty pos after guard).wp P a w K Q := by
  refine r_box hx ?_
  have e : v.cells = [v].toArray := by cases v <;> first | rfl | cases h1
  rw [e]; exact hk
theorem r_boxN {x : Operand} {t : TypeId} {cs : List Value} (hx : a.eval x = .agg cs.toArray) (hk : ∀ g w', Blk w' g t cs.toArray → Ext w w' → g = w.heap.size → K (a.put dst (.pointer (some ⟨g, 0, none⟩))) w') : (Oper.mk dst (.box t x) ty pos after guard).wp P a w K Q :=
  r_box hx hk
theorem r_quo_nn {x y : Operand} {t t' : TypeId} {p q : Int} (hx : a.eval x = .int .i64 p) (hy : a.eval y = .int .i64 q) (h0 : 0 ≤ p) (h1 : 1 ≤ q) (h2 : p ≤ 9223372036854775807) (hk : K (a.put dst (.int .i64 (p / q))) w) : (Oper.mk dst (.binOp .quo t x y t') ty pos after guard).wp P a w K Q :=
  r_quo hx hy (by omega) (IntWalk.i64_quo _ _ ⟨h0, h2, h1⟩) hk
theorem r_rem_nn {x y : Operand} {t t' : TypeId} {k : IntKind} {p q : Int} (hx : a.eval x = .int k p) (hy : a.eval y = .int k q) (h0 : 0 ≤ p) (h1 : 1 ≤ q) (hk : K (a.put dst (.int k (p % q))) w) : (Oper.mk dst (.binOp .rem t x y t') ty pos after guard).wp P a w K Q :=
  r_rem hx hy (by omega) (IntWalk.rem_in _ _ h0) hk
end
section
variable {P : Program} {Q : Exit → Act → World → Prop} {K : Act → World → Prop} {a : Act} {w : World}
theorem wp_region_lit_ng {id : Nat} {l : List Oper} (_h : (l.all (·.guard.isNone)) = true) (h : wpList P l.toArray Q l a w) : (Code.region id l.toArray false).wp P Q a w := wp_region_lit h
theorem no_region {id : Nat} {ops : Array Oper} {d : Bool} (h : False) : (Code.region id ops d).wp P Q a w := h.elim
theorem no_list {ops : Array Oper} {l : List Oper} (h : False) : wpList P ops Q l a w := h.elim
theorem no_par {ops : Array Oper} {w0 : World} {l : List Oper} {ss : List Spec} {fs : List (World → Prop)} (h : False) : ParSteps P ops Q w0 l ss fs a := h.elim
theorem no_oper {o : Oper} (h : False) : o.wp P a w K Q := h.elim
theorem no_loop {c : Code} (h : False) : (Code.loop c).wp P Q a w := h.elim
theorem ev_tmp (l : List Value) (d : List Deferred) (t : Nat) : (Act.mk l.toArray d).eval (.tmp t) = l.getD t undef := by simp [Act.eval]
theorem ev_const (a : Act) (v : Value) : a.eval (.const v) = v := rfl
theorem ev_glob (a : Act) (g : Nat) : a.eval (.global g) = .pointer (some ⟨g, 0, none⟩) := rfl
theorem ev_fn (a : Act) (f : Nat) : a.eval (.func f) = .func (.func f) #[] #[] := rfl
theorem cell_blk {w w' : World} {b j : Nat} {t : TypeId} {cs : List Value} {v : Value} (h : Blk w b t cs.toArray) (hx : Ext w w') (hv : cs[j]? = some v) : w'.cell? ⟨b, j, none⟩ = some v := by
  rw [(h.ext hx).cell j]; simpa using hv
theorem cell_row0 {w w' : World} {b j : Nat} {cs : List Value} {v : Value} (h : RowAt w b 0 cs) (hx : Ext w w') (hv : cs[j]? = some v) : w'.cell? ⟨b, j, none⟩ = some v := by
  have := (h.ext hx) j v hv; rwa [Nat.zero_add] at this
theorem cell_row {w w' : World} {b p j : Nat} {cs : List Value} {v : Value} (h : RowAt w b p cs) (hx : Ext w w') (hv : cs[j]? = some v) : w'.cell? ⟨b, p + j, none⟩ = some v := (h.ext hx) j v hv
theorem cell_rowp {w w' : World} {b p : Nat} {cs : List Value} {v : Value} (h : RowAt w b p cs) (hx : Ext w w') (hv : cs[0]? = some v) : w'.cell? ⟨b, p, none⟩ = some v := (h.ext hx) 0 v hv
theorem row_blk {w w' : World} {b : Nat} {t : TypeId} {cs : List Value} (h : Blk w b t cs.toArray) (hx : Ext w w') : RowAt w' b 0 cs := fun j u hu => by
  rw [Nat.zero_add, (h.ext hx).cell j]; simpa using hu
end
/-! ### The same under short names: rewriting of frames, and the chain of worlds -/
theorem SS : (∀ (l : List Value) (ds : List Deferred) (d : Nat) (v : Value), (Act.mk l.toArray ds).put (some d) v = Act.mk (l.set d v).toArray ds) ∧ (∀ (a : Act) (v : Value), a.put none v = a) ∧ (∀ (v x : Value) (l : List Value), (x :: l).set 0 v = v :: l) ∧ (∀ (v x : Value) (l : List Value) (n : Nat), (x :: l).set (n + 1) v = x :: l.set n v) ∧
    (∀ n : Nat, 0 + n = n) ∧ (∀ n : Nat, n + 0 = n) ∧ (∀ n : Nat, (n : Int).toNat = n) ∧ (∀ n : Nat, n * 1 = n) ∧ ((0 : Int).toNat = 0) ∧ (∀ n : Nat, 0 * n = 0) ∧ (∀ l : List Value, l.drop 0 = l) ∧ (∀ (x : Value) (l : List Value) (n : Nat), (x :: l).drop (n + 1) = l.drop n) ∧ (∀ (x : Value) (l : List Value) (n : Nat), (x :: l).take (n + 1) = x :: l.take n) ∧ (∀ l : List Value, l.take 0 = []) := by
  refine ⟨fun l ds d v => by simp [Act.put], fun _ _ => rfl, fun _ _ _ => rfl, fun _ _ _ _ => rfl, Nat.zero_add, Nat.add_zero, fun _ => rfl, Nat.mul_one, rfl, Nat.zero_mul, fun _ => rfl, fun _ _ _ => rfl, fun _ _ _ => rfl, fun l => by simp⟩
theorem SB : (∀ cs : Array Value, (Value.agg cs).cells = cs) ∧ (∀ k n, (Value.int k n).cells = #[.int k n]) ∧ (∀ s, (Value.string s).cells = #[.string s]) ∧ (∀ b, (Value.bool b).cells = #[.bool b]) ∧ (∀ p, (Value.pointer p).cells = #[.pointer p]) ∧ (∀ x l c, (Value.slice x l c).cells = #[.slice x l c]) ∧ (∀ m, (Value.map m).cells = #[.map m]) ∧
    (∀ (x : Value) (a b : List Value), (x :: a) ++ b = x :: (a ++ b)) ∧ (∀ a : List Value, [] ++ a = a) ∧ (∀ a : List Value, a ++ [] = a) ∧ (∀ a b c : List Value, (a ++ b) ++ c = a ++ (b ++ c)) ∧ (∀ (a : List Value) (b : List (List Value)), (a :: b).flatten = a ++ b.flatten) ∧ (([] : List (List Value)).flatten = []) ∧ (∀ l : List Value, l.toArray.toList = l) := by
  refine ⟨fun _ => rfl, fun _ _ => rfl, fun _ => rfl, fun _ => rfl, fun _ => rfl, fun _ _ _ => rfl, fun _ => rfl, fun _ _ _ => rfl, fun _ => rfl, List.append_nil, List.append_assoc, fun _ _ => rfl, rfl, fun _ => rfl⟩
theorem EE : (∀ (l : List Value) (d : List Deferred) (t : Nat), (Act.mk l.toArray d).eval (.tmp t) = l.getD t undef) ∧ (∀ (a : Act) (v : Value), a.eval (.const v) = v) ∧ (∀ (a : Act) (g : Nat), a.eval (.global g) = .pointer (some ⟨g, 0, none⟩)) ∧ (∀ (a : Act) (f : Nat), a.eval (.func f) = .func (.func f) #[] #[]) ∧
    (∀ (f : Operand → Value), [].map f = []) ∧ (∀ (f : Operand → Value) (x : Operand) (l : List Operand), (x :: l).map f = f x :: l.map f) ∧ (∀ (f : Nat × Operand → Nat × Value), [].map f = []) ∧ (∀ (f : Nat × Operand → Nat × Value) (x : Nat × Operand) (l : List (Nat × Operand)), (x :: l).map f = f x :: l.map f) ∧
    (∀ (x : Value) (l : List Value) (d : Value), (x :: l).getD 0 d = x) ∧ (∀ (x : Value) (l : List Value) (d : Value) (n : Nat), (x :: l).getD (n + 1) d = l.getD n d) :=
  ⟨ev_tmp, ev_const, ev_glob, ev_fn, fun _ => rfl, fun _ _ _ => rfl, fun _ => rfl, fun _ _ _ => rfl, fun _ _ _ => rfl, fun _ _ _ _ => rfl⟩
theorem bff {x : Bool} (h : x = false) (k : x = true) : False := by rw [h] at k; cases k
theorem bft {x : Bool} (h : x = true) (k : x = false) : False := by rw [h] at k; cases k
theorem xr (w : World) : Ext w w := Ext.refl w
theorem xtb {a b c : World} (k : Ext b c) (h : Ext a b) : Ext a c := h.trans k
theorem xz {a z b c : World} (hb : Below z.heap.size b c) (h1 : Ext a z) (h2 : Ext z b) : Ext a c := h1.trans (Below.trans h2 hb)
theorem xt {a b c : World} (h : Ext a b) (k : Ext b c) : Ext a c := h.trans k
section
variable {w w' : World} {b p j : Nat} {t : TypeId} {cs : List Value} {v : Value}
theorem cb (h : Blk w b t cs.toArray) (hx : Ext w w') (hv : cs[j]? = some v) : w'.cell? ⟨b, j, none⟩ = some v := cell_blk h hx hv
theorem c0 (h : RowAt w b 0 cs) (hx : Ext w w') (hv : cs[j]? = some v) : w'.cell? ⟨b, j, none⟩ = some v := cell_row0 h hx hv
theorem cr (h : RowAt w b p cs) (hx : Ext w w') (hv : cs[j]? = some v) : w'.cell? ⟨b, p + j, none⟩ = some v := cell_row h hx hv
theorem cp (h : RowAt w b p cs) (hx : Ext w w') (hv : cs[0]? = some v) : w'.cell? ⟨b, p, none⟩ = some v := cell_rowp h hx hv
theorem cx {q : Addr} (h : w.cell? q = some v) (hx : Ext w w') : w'.cell? q = some v := hx.cell h
theorem rb (h : Blk w b t cs.toArray) (hx : Ext w w') : RowAt w' b 0 cs := row_blk h hx
theorem rx (h : RowAt w b p cs) (hx : Ext w w') : RowAt w' b p cs := h.ext hx
end
end Go.Proofs.YtdopillligfdiaaDoor
