/- Single operations on data: parts of structs, memory, slices. -/
import Derived.Test.YtdopillligfdiaaDoorM3
namespace Go.Proofs.YtdopillligfdiaaDoor
set_option linter.unusedSimpArgs false
set_option linter.unusedVariables false
open Go.RowKit

section
variable {P : Program} {dst : Option Tmp} {ty : TypeId} {pos : String} {after : Array Edge} {guard : Option (Nat × Bool)} {ρ : Operand → D}
theorem ok_field1 {x : Operand} {t : TypeId} {i off : Nat} [TFld P t i off 0 false] {cs : List D} {d : D} (hx : ρ x = .agg cs) (hd : cs[off]? = some d) (ho : d.one = true) : OpOk P (Oper.mk dst (.field t x i) ty pos after guard) ρ d :=
  .still fun S w a _ hr => by
    obtain ⟨q, h⟩ := arg hr hx (by simp [Op.operands])
    obtain ⟨vs, hv, hl, _, hi⟩ := h.agg_inv
    have hlt : off < vs.length := by rw [hl]; exact (List.getElem?_eq_some_iff.1 hd).1
    exact ⟨vs[off], .fz (D.one_fz (hi off d _ hd (List.getElem?_eq_getElem hlt)) ho), fun K Q hk => r_field1 hv (List.getElem?_eq_getElem hlt) hk⟩
theorem ok_fieldN {x : Operand} {t : TypeId} {i off n : Nat} [TFld P t i off n true] {cs : List D} (hx : ρ x = .agg cs) (ho : cs.all D.one = true) : OpOk P (Oper.mk dst (.field t x i) ty pos after guard) ρ (.agg ((cs.drop off).take (n + 1))) :=
  .still fun S w a _ hr => by
    obtain ⟨q, h⟩ := arg hr hx (by simp [Op.operands])
    obtain ⟨vs, hv, hl, h1, hi⟩ := h.agg_inv
    refine ⟨_, .fz (.agg ((vs.drop off).take (n + 1)) (by simp [hl]) (fun u hu => h1 u (List.mem_of_mem_drop (List.mem_of_mem_take hu))) fun j d v hd hv => ?_), fun K Q hk => r_fieldN hv hk⟩
    rw [List.getElem?_take] at hd hv
    split at hd
    · rename_i hj
      rw [if_pos hj] at hv
      rw [List.getElem?_drop] at hd hv
      exact D.one_fz (hi _ d v hd hv) (List.all_eq_true.1 ho d (List.mem_of_getElem? hd))
    · cases hd
theorem ok_fieldAddr {x : Operand} {t : TypeId} {i off n : Nat} {ag : Bool} [TFld P t i off n ag] {cs : List D} (hx : ρ x = .ptr cs) : OpOk P (Oper.mk dst (.fieldAddr t x i) ty pos after guard) ρ (.ptr (cs.drop off)) :=
  .still fun S w a _ hr => by
    obtain ⟨q, h⟩ := arg hr hx (by simp [Op.operands])
    obtain ⟨b, o, hv, cv, h1, h2⟩ := (D.one_fz h rfl).ptr_inv
    refine ⟨_, .fz (.ptr (o := o + off) (fun j => cv (off + j)) (fun j d hd => ?_) fun j d hd => ?_), fun K Q hk => r_fieldAddr hv hk⟩
    · rw [List.getElem?_drop] at hd
      have := h1 _ d hd
      rwa [← Nat.add_assoc] at this
    · rw [List.getElem?_drop] at hd
      exact h2 _ d hd
theorem ok_fieldRef {x : Operand} {t : TypeId} {i off n : Nat} {ag : Bool} [TFld P t i off n ag] {u o : Nat} (hx : ρ x = .ref u o) : OpOk P (Oper.mk dst (.fieldAddr t x i) ty pos after guard) ρ (.ref u (o + off)) :=
  .still fun S w a _ hr => by
    obtain ⟨q, h⟩ := arg hr hx (by simp [Op.operands])
    generalize hv : a.eval x = v at h
    cases h with
    | fz h => cases h
    | ref g => exact ⟨_, ⟨fun p => .ref g, fun t' ht => ⟨x, by simp [Op.operands], by cases ht; rw [hx]; exact .ref _⟩⟩, fun K Q hk => r_fieldAddr hv hk⟩
theorem ok_load1 {x : Operand} {t : TypeId} [TOne P t] {d : D} {cs : List D} (hx : ρ x = .ptr (d :: cs)) : OpOk P (Oper.mk dst (.load t x) ty pos after guard) ρ d :=
  .still fun S w a _ hr => by
    obtain ⟨q, h⟩ := arg hr hx (by simp [Op.operands])
    obtain ⟨b, o, hv, cv, h1, h2⟩ := (D.one_fz h rfl).ptr_inv
    exact ⟨_, .fz (h2 0 d rfl), fun K Q hk => r_load1 hv (h1 0 d rfl).1 hk⟩
theorem ok_loadN {x : Operand} {t n : Nat} [TRow P t n] {cs : List D} (hx : ρ x = .ptr cs) (hn : n ≤ cs.length) : OpOk P (Oper.mk dst (.load t x) ty pos after guard) ρ (.agg (cs.take n)) :=
  .still fun S w a _ hr => by
    obtain ⟨q, h⟩ := arg hr hx (by simp [Op.operands])
    obtain ⟨b, o, hv, cv, h1, h2⟩ := (D.one_fz h rfl).ptr_inv
    have hget : ∀ j, j < n → ∃ d, cs[j]? = some d := fun j hj => ⟨cs[j], List.getElem?_eq_getElem (by omega)⟩
    refine ⟨.agg ((List.range n).map cv).toArray, .fz (.agg _ (by simp; omega) (fun u hu => ?_) fun j d v hd hv' => ?_), fun K Q hk => r_loadN (cs := (List.range n).map cv) hv (fun j u hu => ?_) (by simp) hk⟩
    · obtain ⟨j, hj, rfl⟩ := List.mem_map.1 hu
      obtain ⟨d, hd⟩ := hget j (List.mem_range.1 hj)
      exact (h1 j d hd).2.2
    · rw [List.getElem?_take] at hd
      split at hd
      · rename_i hj
        rw [List.getElem?_map, List.getElem?_range hj] at hv'
        cases hv'
        exact h2 j d hd
      · cases hd
    · have hj : j < n := by have := (List.getElem?_eq_some_iff.1 hu).1; simpa using this
      rw [List.getElem?_map, List.getElem?_range hj] at hu
      cases hu
      obtain ⟨d, hd⟩ := hget j hj
      exact (h1 j d hd).1
/-- A slice that is read. -/
theorem ok_indexAddr {x y : Operand} {t e sz : Nat} [TSlice P t e] [TSize P e sz] {m : Nat} {k : IntKind} {j : Int} {rows : List (List D)} {r : List D} (hx : ρ x = .sl m sz rows) (hm : m < 2) (hy : ρ y = .int k j) (h0 : 0 ≤ j) (hr' : rows[j.toNat]? = some r) :
    OpOk P (Oper.mk dst (.indexAddr t x y) ty pos after guard) ρ (.ptr r) :=
  .still fun S w a _ hr => by
    obtain ⟨q, h⟩ := arg hr hx (by simp [Op.operands])
    have hj := (List.getElem?_eq_some_iff.1 hr').1
    have hf : Fz S.lim w (a.eval x) (.sl 0 sz rows) := by
      generalize a.eval x = v at h
      cases h with
      | fz h =>
        cases h with
        | slNil => simp at hj
        | slE => simp at hj
        | sl cv hc hmx hl hh ih => exact .sl cv hc hmx hl hh ih
      | own g =>
        have : m = 1 := by rcases g.mode with h | h <;> omega
        subst this
        exact g.fz
    generalize hv : a.eval x = v at hf
    cases hf with
    | slNil => simp at hj
    | slE => simp at hj
    | sl cv hc hm hl hh ih =>
      refine ⟨_, .fz (.ptr (fun i => cv j.toNat i) (fun i d hd => hh _ r i d hr' hd) fun i d hd => ih _ r i d hr' hd), fun K Q hk => r_indexAddr hv (argI hr hy (by simp [Op.operands])) h0 (by omega) hk⟩
theorem ok_lenSl {x : Operand} {t e : Nat} [TSlice P t e] {m sz : Nat} {rows : List (List D)} (hx : ρ x = .sl m sz rows) : OpOk P (Oper.mk dst (.call ⟨.builtin .len, #[x], #[t]⟩) ty pos after guard) ρ (.int .i64 rows.length) :=
  .still fun S w a _ hr => by
    obtain ⟨q, h⟩ := arg hr hx (by simp [Op.operands, Call.operands])
    have hv : ∃ A c, a.eval x = .slice A rows.length c := by
      generalize a.eval x = v at h
      cases h with
      | fz h => cases h <;> exact ⟨_, _, rfl⟩
      | own g => exact ⟨_, _, rfl⟩
    obtain ⟨A, c, hv⟩ := hv
    exact ⟨_, .fz (.int _ _), fun K Q hk => r_len_slice hv hk⟩
theorem ok_lenNil {x : Operand} {t e : Nat} [TSlice P t e] (hx : ρ x = .nil) : OpOk P (Oper.mk dst (.call ⟨.builtin .len, #[x], #[t]⟩) ty pos after guard) ρ (.int .i64 0) :=
  .still fun S w a _ hr => by
    obtain ⟨q, h⟩ := arg hr hx (by simp [Op.operands, Call.operands])
    exact ⟨_, .fz (.int _ _), fun K Q hk => r_len_slice h.nil_inv hk⟩
/-- A new variable whose cells nobody writes. -/
theorem ok_box {x : Operand} {t : TypeId} {cs : List D} (hc : (ρ x).cellsOf = some cs) : OpOk P (Oper.mk dst (.box t x) ty pos after guard) ρ (.ptr cs) := by
  intro S w a p hw hr K Q hK
  obtain ⟨q, h⟩ := hr x (by simp [Op.operands])
  obtain ⟨h1, h2, h3⟩ := Fz.cells h hc
  refine r_box rfl fun g w' hb hx hg => ?_
  have hp := PT.ext' hw hx
  have hK' : ∀ v, Fz S.lim w' v (.ptr cs) → K (a.put dst v) w' := fun v hf => hK v S w' hp (.fz hf) (fun t ht => by cases ht)
  refine hK' _ (.ptr (fun j => (a.eval x).cells.toList.getD j undef) (fun j d hd => ?_) fun j d hd => ?_)
  · have hj : j < (a.eval x).cells.toList.length := by rw [h1]; exact (List.getElem?_eq_some_iff.1 hd).1
    have he : (a.eval x).cells.toList[j]? = some ((a.eval x).cells.toList.getD j undef) := by rw [List.getD_eq_getElem?_getD, List.getElem?_eq_getElem hj]; rfl
    refine ⟨?_, fun s hs => ?_, h2 _ (List.mem_of_getElem? he)⟩
    · rw [Nat.zero_add, hb.cell]
      simpa using he
    · exfalso
      simp only [Sig.lim] at hs
      cases ho : S.own g with
      | none => rw [ho] at hs; cases hs
      | some x => have := hw g x ho; omega
  · have hj : j < (a.eval x).cells.toList.length := by rw [h1]; exact (List.getElem?_eq_some_iff.1 hd).1
    have he : (a.eval x).cells.toList[j]? = some ((a.eval x).cells.toList.getD j undef) := by rw [List.getD_eq_getElem?_getD, List.getElem?_eq_getElem hj]; rfl
    exact (h3 j d _ hd he).trans hp.trans
/-- '==' of the fields. -/
def deqs : List D → List D → Option Bool
  | [], [] => some true
  | .int _ p :: xs, .int _ q :: ys => (deqs xs ys).map fun b => p == q && b
  | .str p :: xs, .str q :: ys => (deqs xs ys).map fun b => p == q && b
  | .bool p :: xs, .bool q :: ys => (deqs xs ys).map fun b => p == q && b
  | _, _ => none
/-- Are they of these kinds? -/
def fitsD : List Nat → List D → List D → Prop
  | [], [], [] => True
  | 0 :: ks, .int k _ :: xs, .int k' _ :: ys => k = k' ∧ fitsD ks xs ys
  | 1 :: ks, .str _ :: xs, .str _ :: ys => fitsD ks xs ys
  | 2 :: ks, .bool _ :: xs, .bool _ :: ys => fitsD ks xs ys
  | _, _, _ => False
theorem fitsD_fits {S : Sig} {w : World} : ∀ (ks : List Nat) (xs ys : List D) (us vs : List Value) (q q' : Nat → Place) (b : Bool), fitsD ks xs ys → deqs xs ys = some b → us.length = xs.length → vs.length = ys.length →
    (∀ (j : Nat) (d : D) (v : Value), xs[j]? = some d → us[j]? = some v → Rep S w (q j) v d) → (∀ (j : Nat) (d : D) (v : Value), ys[j]? = some d → vs[j]? = some v → Rep S w (q' j) v d) → fitsV ks us vs = true ∧ veqs us vs = b
  | ks, xs, ys, us, vs, q, q', b, hf, hd, hu, hv, h1, h2 => by
    match ks, xs, ys, us, vs, hf, hd, hu, hv with
    | [], [], [], [], [], _, hd, _, _ => cases hd; exact ⟨rfl, rfl⟩
    | 0 :: ks, .int k m :: xs, .int k' n :: ys, u :: us, v :: vs, hf, hd, hu, hv =>
      obtain ⟨rfl, hf⟩ := hf
      simp only [deqs, Option.map_eq_some_iff] at hd
      obtain ⟨b', hb', rfl⟩ := hd
      obtain rfl := (h1 0 _ u rfl rfl).int_inv
      obtain rfl := (h2 0 _ v rfl rfl).int_inv
      obtain ⟨e1, e2⟩ := fitsD_fits ks xs ys us vs (fun j => q (j + 1)) (fun j => q' (j + 1)) b' hf hb' (by simpa using hu) (by simpa using hv) (fun j d v hd hv => h1 (j + 1) d v (by simpa using hd) (by simpa using hv)) (fun j d v hd hv => h2 (j + 1) d v (by simpa using hd) (by simpa using hv))
      exact ⟨by simp [fitsV, e1], by simp [veqs, veq, e2]⟩
    | 1 :: ks, .str m :: xs, .str n :: ys, u :: us, v :: vs, hf, hd, hu, hv =>
      simp only [deqs, Option.map_eq_some_iff] at hd
      obtain ⟨b', hb', rfl⟩ := hd
      obtain rfl := (h1 0 _ u rfl rfl).str_inv
      obtain rfl := (h2 0 _ v rfl rfl).str_inv
      obtain ⟨e1, e2⟩ := fitsD_fits ks xs ys us vs (fun j => q (j + 1)) (fun j => q' (j + 1)) b' hf hb' (by simpa using hu) (by simpa using hv) (fun j d v hd hv => h1 (j + 1) d v (by simpa using hd) (by simpa using hv)) (fun j d v hd hv => h2 (j + 1) d v (by simpa using hd) (by simpa using hv))
      exact ⟨by simp [fitsV, e1], by simp [veqs, veq, e2]⟩
    | 2 :: ks, .bool m :: xs, .bool n :: ys, u :: us, v :: vs, hf, hd, hu, hv =>
      simp only [deqs, Option.map_eq_some_iff] at hd
      obtain ⟨b', hb', rfl⟩ := hd
      obtain rfl := (h1 0 _ u rfl rfl).bool_inv
      obtain rfl := (h2 0 _ v rfl rfl).bool_inv
      obtain ⟨e1, e2⟩ := fitsD_fits ks xs ys us vs (fun j => q (j + 1)) (fun j => q' (j + 1)) b' hf hb' (by simpa using hu) (by simpa using hv) (fun j d v hd hv => h1 (j + 1) d v (by simpa using hd) (by simpa using hv)) (fun j d v hd hv => h2 (j + 1) d v (by simpa using hd) (by simpa using hv))
      exact ⟨by simp [fitsV, e1], by simp [veqs, veq, e2]⟩
theorem ok_structEq {x y : Operand} {t t' : TypeId} {ks : List Nat} {xs ys : List D} {b : Bool} [TEq P t ks] (hx : ρ x = .agg xs) (hy : ρ y = .agg ys) (hf : fitsD ks xs ys) (hb : deqs xs ys = some b) : OpOk P (Oper.mk dst (.binOp .eql t x y t') ty pos after guard) ρ (.bool b) :=
  .still fun S w a _ hr => by
    obtain ⟨q, h⟩ := arg hr hx (by simp [Op.operands])
    obtain ⟨q', h'⟩ := arg hr hy (by simp [Op.operands])
    obtain ⟨us, hu, hl, _, hi⟩ := h.agg_inv
    obtain ⟨vs, hv, hl', _, hi'⟩ := h'.agg_inv
    obtain ⟨e1, e2⟩ := fitsD_fits ks xs ys us vs _ _ b hf hb hl hl' hi hi'
    exact ⟨_, .fz (.bool _), fun K Q hk => r_structEq hu hv e1 (by rw [e2]; exact hk)⟩
theorem ok_structNe {x y : Operand} {t t' : TypeId} {ks : List Nat} {xs ys : List D} {b : Bool} [TEq P t ks] (hx : ρ x = .agg xs) (hy : ρ y = .agg ys) (hf : fitsD ks xs ys) (hb : deqs xs ys = some b) : OpOk P (Oper.mk dst (.binOp .neq t x y t') ty pos after guard) ρ (.bool !b) :=
  .still fun S w a _ hr => by
    obtain ⟨q, h⟩ := arg hr hx (by simp [Op.operands])
    obtain ⟨q', h'⟩ := arg hr hy (by simp [Op.operands])
    obtain ⟨us, hu, hl, _, hi⟩ := h.agg_inv
    obtain ⟨vs, hv, hl', _, hi'⟩ := h'.agg_inv
    obtain ⟨e1, e2⟩ := fitsD_fits ks xs ys us vs _ _ b hf hb hl hl' hi hi'
    exact ⟨_, .fz (.bool _), fun K Q hk => r_structNe hu hv e1 (by rw [e2]; exact hk)⟩
end
end Go.Proofs.YtdopillligfdiaaDoor
