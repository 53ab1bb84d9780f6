/- Single operations on data: what each gives, and that the machine gives no other. -/
import Derived.Test.YtdopillligfdiaaDoorMK
namespace Go.Proofs.YtdopillligfdiaaDoor
set_option linter.unusedSimpArgs false
set_option linter.unusedVariables false
open Go.RowKit

/-- What a type is. -/
inductive TI where
  | int (k : IntKind)
  | str
  | bool
  | one
  | sl (e sz bytes : Nat) (zc : List Value)
  | mp (k e : Nat) (kd : KD) (z : Value)
  | st (n : Nat) (fl : List (Nat × Nat × Bool)) (ks : Option (List Nat))
def TFact (P : Program) (t : Nat) : TI → Prop
  | .int k => TInt P t k ∧ TOne P t
  | .str => TStr P t ∧ TOne P t
  | .bool => TBool P t ∧ TOne P t
  | .one => TOne P t
  | .sl e sz by' zc => TSlice P t e ∧ TSize P e sz ∧ TOne P t ∧ TElem P e sz by' zc ∧ TZer P e zc
  | .mp k e kd z => TMap P t k e kd ∧ TZ1 P e z ∧ TOne P t
  | .st n fl ks => TRow P t n ∧ (∀ (i off n' : Nat) (ag : Bool), fl[i]? = some (off, n' + 1, ag) → TFld P t i off n' ag) ∧ TStruct P t (fl.map fun x => (x.1, x.2.1)) ∧ ∀ k, ks = some k → TEq P t k
structure TOk (P : Program) (T : Nat → Option TI) (Z : Nat → Option (List Value)) : Prop where
  ty : ∀ t i, T t = some i → TFact P t i
  zer : ∀ t z, Z t = some z → TZer P t z

theorem D.one_fz {S : Sig} {w : World} {q : Place} {v : Value} {d : D} (h : Rep S w q v d) (ho : d.one = true) : Fz S.lim w v d := by
  cases h with
  | fz h => exact h
  | own g =>
    rcases g.mode with h | h <;> subst h <;> cases ho
  | _ => cases ho
theorem D.one_cell {lim : Nat → Option Nat} {w : World} {v : Value} {d : D} (h : Fz lim w v d) (ho : d.one = true) : v.oneCell' = true := by
  cases h with
  | pv v => exact ho
  | _ => first | rfl | cases ho
theorem Fz.cells {S : Sig} {w : World} {q : Place} {v : Value} {d : D} {cs : List D} (h : Rep S w q v d) (hc : d.cellsOf = some cs) :
    v.cells.toList.length = cs.length ∧ (∀ u : Value, u ∈ v.cells.toList → u.oneCell' = true) ∧ ∀ (j : Nat) (e : D) (u : Value), cs[j]? = some e → v.cells.toList[j]? = some u → Fz S.lim w u e := by
  have single : d.one = true → cs = [d] → v.cells.toList.length = cs.length ∧ (∀ u : Value, u ∈ v.cells.toList → u.oneCell' = true) ∧ ∀ (j : Nat) (e : D) (u : Value), cs[j]? = some e → v.cells.toList[j]? = some u → Fz S.lim w u e := by
    intro ho he
    subst he
    have hf := D.one_fz h ho
    have h1 := D.one_cell hf ho
    have e1 : v.cells = #[v] := by cases v <;> first | rfl | cases h1
    rw [e1]
    refine ⟨rfl, fun u hu => by simp at hu; subst hu; exact h1, fun j e u he hu => ?_⟩
    cases j with
    | zero => cases he; cases hu; exact hf
    | succ j => simp at he
  cases d with
  | agg cs0 =>
    simp only [D.cellsOf] at hc
    split at hc
    · rename_i hall
      cases hc
      obtain ⟨vs, rfl, h2, h3, h4⟩ := h.agg_inv
      refine ⟨by simpa [Value.cells] using h2, by simpa [Value.cells] using h3, fun j e u he hu => ?_⟩
      refine D.one_fz (h4 j e u he (by simpa [Value.cells] using hu)) ?_
      exact List.all_eq_true.1 hall e (List.mem_of_getElem? he)
    · cases hc
  | _ =>
    simp only [D.cellsOf] at hc
    split at hc
    · rename_i ho
      cases hc
      exact single ho rfl
    · cases hc
/-- What owns nothing may stand anywhere. -/
theorem Rep.plain {S : Sig} {w : World} {q p : Place} {v : Value} {d : D} (h : Rep S w q v d) (hp : d.plain = true) : Rep S w p v d := by
  cases h with
  | fz h => exact .fz h
  | own g => rcases g.mode with h | h <;> subst h <;> cases hp
  | mp => cases hp
  | obj => cases hp
  | ref h => exact .ref h
  | gref h hv => exact .gref h hv
  | fn vs hl ih => exact .fn vs hl ih
  | agg vs hl h1 ih =>
    refine .agg vs hl h1 fun j d v hd hv => .fz (D.one_fz (ih j d v hd hv) ?_)
    exact List.all_eq_true.1 hp d (List.mem_of_getElem? hd)
  | tup vs hl ih =>
    refine .tup vs hl fun j d v hd hv => ?_
    have h1 := List.all_eq_true.1 hp d (List.mem_of_getElem? hd)
    have h2 := ih j d v hd hv
    cases d with
    | agg cs =>
      obtain ⟨us, rfl, k1, k2, k3⟩ := h2.agg_inv
      exact .agg us k1 k2 fun j' e u he hu => .fz (D.one_fz (k3 j' e u he hu) (List.all_eq_true.1 h1 e (List.mem_of_getElem? he)))
    | _ => exact .fz (D.one_fz h2 h1)

/-- A value that may stand anywhere, and leads nowhere but where its operands do. -/
structure Vl (S : Sig) (w : World) (o : Op) (ρ : Operand → D) (v : Value) (d : D) : Prop where
  rep : ∀ p, Rep S w p v d
  men : ∀ t, Men t d → ∃ x ∈ o.operands.toList, Men t (ρ x)
theorem Vl.fz {S : Sig} {w : World} {o : Op} {ρ : Operand → D} {v : Value} {d : D} (h : Fz S.lim w v d) : Vl S w o ρ v d := ⟨fun _ => .fz h, fun _ ht => (h.men ht).elim⟩
/-- What an operation gives, whatever the world. -/
def OpOk (P : Program) (o : Oper) (ρ : Operand → D) (d : D) : Prop :=
  ∀ (S : Sig) (w : World) (a : Act) (p : Place), WF S w → (∀ x ∈ o.op.operands.toList, ∃ q, Rep S w q (a.eval x) (ρ x)) → ∀ (K : Act → World → Prop) (Q : Exit → Act → World → Prop),
    (∀ v S' w', PT S w S' w' → Rep S' w' p v d → (∀ t, Men t d → ∃ x ∈ o.op.operands.toList, Men t (ρ x)) → K (a.put o.dst v) w') → o.wp P a w K Q
section
variable {P : Program} {dst : Option Tmp} {ty : TypeId} {pos : String} {after : Array Edge} {guard : Option (Nat × Bool)} {ρ : Operand → D}
/-- An operation that leaves the world alone. -/
theorem OpOk.still {o : Oper} {d : D} (h : ∀ (S : Sig) (w : World) (a : Act), WF S w → (∀ x ∈ o.op.operands.toList, ∃ q, Rep S w q (a.eval x) (ρ x)) → ∃ v, Vl S w o.op ρ v d ∧ ∀ (K : Act → World → Prop) (Q : Exit → Act → World → Prop), K (a.put o.dst v) w → o.wp P a w K Q) : OpOk P o ρ d := by
  intro S w a p hw hx K Q hK
  obtain ⟨v, h1, h2⟩ := h S w a hw hx
  exact h2 K Q (hK v S w (PT.refl hw) (h1.rep p) h1.men)
theorem ok_move {x : Operand} (hp : (ρ x).plain = true) : OpOk P (Oper.mk dst (.move x) ty pos after guard) ρ (ρ x) :=
  .still fun S w a _ hx => by
    obtain ⟨q, h⟩ := hx x (by simp [Op.operands])
    exact ⟨_, ⟨fun p => h.plain hp, fun t ht => ⟨x, by simp [Op.operands], ht⟩⟩, fun K Q hk => r_move rfl hk⟩
theorem ok_assign {x : Operand} (hp : (ρ x).plain = true) : OpOk P (Oper.mk dst (.assign x) ty pos after guard) ρ (ρ x) :=
  .still fun S w a _ hx => by
    obtain ⟨q, h⟩ := hx x (by simp [Op.operands])
    exact ⟨_, ⟨fun p => h.plain hp, fun t ht => ⟨x, by simp [Op.operands], ht⟩⟩, fun K Q hk => r_assign rfl hk⟩
theorem Fz.ptr_inv {lim : Nat → Option Nat} {w : World} {v : Value} {cs : List D} (h : Fz lim w v (.ptr cs)) : ∃ b o, v = .pointer (some ⟨b, o, none⟩) ∧ ∃ cv : Nat → Value, (∀ (j : Nat) (d : D), cs[j]? = some d → w.cell? ⟨b, o + j, none⟩ = some (cv j) ∧ OkC lim b (o + j) ∧ (cv j).oneCell' = true) ∧ ∀ (j : Nat) (d : D), cs[j]? = some d → Fz lim w (cv j) d := by
  cases h with
  | ptr cv hh ih => exact ⟨_, _, rfl, cv, hh, ih⟩
theorem arg {S : Sig} {w : World} {a : Act} {o : Op} {ρ : Operand → D} (hr : ∀ x ∈ o.operands.toList, ∃ q, Rep S w q (a.eval x) (ρ x)) {x : Operand} {d : D} (hx : ρ x = d) (hm : x ∈ o.operands.toList) : ∃ q, Rep S w q (a.eval x) d := by
  obtain ⟨q, h⟩ := hr x hm
  exact ⟨q, hx ▸ h⟩
theorem argI {S : Sig} {w : World} {a : Act} {o : Op} {ρ : Operand → D} (hr : ∀ x ∈ o.operands.toList, ∃ q, Rep S w q (a.eval x) (ρ x)) {x : Operand} {k : IntKind} {n : Int} (hx : ρ x = .int k n) (hm : x ∈ o.operands.toList) : a.eval x = .int k n := by
  obtain ⟨q, h⟩ := arg hr hx hm; exact h.int_inv
theorem argB {S : Sig} {w : World} {a : Act} {o : Op} {ρ : Operand → D} (hr : ∀ x ∈ o.operands.toList, ∃ q, Rep S w q (a.eval x) (ρ x)) {x : Operand} {b : Bool} (hx : ρ x = .bool b) (hm : x ∈ o.operands.toList) : a.eval x = .bool b := by
  obtain ⟨q, h⟩ := arg hr hx hm; exact h.bool_inv
theorem argS {S : Sig} {w : World} {a : Act} {o : Op} {ρ : Operand → D} (hr : ∀ x ∈ o.operands.toList, ∃ q, Rep S w q (a.eval x) (ρ x)) {x : Operand} {s : List UInt8} (hx : ρ x = .str s) (hm : x ∈ o.operands.toList) : a.eval x = .string ⟨s.toArray⟩ := by
  obtain ⟨q, h⟩ := arg hr hx hm; exact h.str_inv
theorem ok_nilPtr {x : Operand} {cs : List D} (hx : ρ x = .ptr cs) : OpOk P (Oper.mk dst (.nilCheck x) ty pos after guard) ρ (.ptr cs) :=
  .still fun S w a _ hr => by
    obtain ⟨q, h⟩ := arg hr hx (by simp [Op.operands])
    have hf := D.one_fz h rfl
    obtain ⟨b, o, hv, _⟩ := hf.ptr_inv
    exact ⟨_, .fz hf, fun K Q hk => by rw [hv] at hk; exact r_nilCheck hv hk⟩
theorem ok_nilRef {x : Operand} {t o : Nat} (hx : ρ x = .ref t o) : OpOk P (Oper.mk dst (.nilCheck x) ty pos after guard) ρ (.ref t o) :=
  .still fun S w a _ hr => by
    obtain ⟨q, h⟩ := arg hr hx (by simp [Op.operands])
    refine ⟨_, ⟨fun p => h.plain rfl, fun t ht => ⟨x, by simp [Op.operands], by rw [hx]; exact ht⟩⟩, fun K Q hk => ?_⟩
    generalize hv : a.eval x = v at h hk
    cases h with
    | fz h => cases h
    | ref g => exact r_nilCheck hv hk
theorem ok_extract {x : Operand} {i : Nat} {ds : List D} {d : D} (hx : ρ x = .tup ds) (hd : ds[i]? = some d) (hp : d.one = true) : OpOk P (Oper.mk dst (.extract x i) ty pos after guard) ρ d :=
  .still fun S w a _ hr => by
    obtain ⟨q, h⟩ := arg hr hx (by simp [Op.operands])
    obtain ⟨vs, hv, hl, hi⟩ := h.tup_inv
    have hlt : i < vs.length := by rw [hl]; exact (List.getElem?_eq_some_iff.1 hd).1
    exact ⟨vs[i], .fz (D.one_fz (hi i d _ hd (List.getElem?_eq_getElem hlt)) hp), fun K Q hk => r_extract hv (List.getElem?_eq_getElem hlt) hk⟩
theorem ok_not {x : Operand} {t : TypeId} {b : Bool} (hx : ρ x = .bool b) : OpOk P (Oper.mk dst (.unOp .not t x) ty pos after guard) ρ (.bool !b) :=
  .still fun S w a _ hr => ⟨_, .fz (.bool _), fun K Q hk => r_not (argB hr hx (by simp [Op.operands])) hk⟩
theorem ok_neg {x : Operand} {t : TypeId} {k : IntKind} {p r : Int} (hx : ρ x = .int k p) (h : k.wrap (0 - p) = r) : OpOk P (Oper.mk dst (.unOp .neg t x) ty pos after guard) ρ (.int k r) :=
  .still fun S w a _ hr => ⟨_, .fz (.int _ _), fun K Q hk => r_neg (argI hr hx (by simp [Op.operands])) h hk⟩
section
variable {x y : Operand} {t t' : TypeId} {k : IntKind} {p q r : Int}
theorem ok_add (hx : ρ x = .int k p) (hy : ρ y = .int k q) (h : k.wrap (p + q) = r) : OpOk P (Oper.mk dst (.binOp .add t x y t') ty pos after guard) ρ (.int k r) :=
  .still fun S w a _ hr => ⟨_, .fz (.int _ _), fun K Q hk => r_add (argI hr hx (by simp [Op.operands])) (argI hr hy (by simp [Op.operands])) h hk⟩
theorem ok_sub (hx : ρ x = .int k p) (hy : ρ y = .int k q) (h : k.wrap (p - q) = r) : OpOk P (Oper.mk dst (.binOp .sub t x y t') ty pos after guard) ρ (.int k r) :=
  .still fun S w a _ hr => ⟨_, .fz (.int _ _), fun K Q hk => r_sub (argI hr hx (by simp [Op.operands])) (argI hr hy (by simp [Op.operands])) h hk⟩
theorem ok_mul (hx : ρ x = .int k p) (hy : ρ y = .int k q) (h : k.wrap (p * q) = r) : OpOk P (Oper.mk dst (.binOp .mul t x y t') ty pos after guard) ρ (.int k r) :=
  .still fun S w a _ hr => ⟨_, .fz (.int _ _), fun K Q hk => r_mul (argI hr hx (by simp [Op.operands])) (argI hr hy (by simp [Op.operands])) h hk⟩
theorem ok_quo (hx : ρ x = .int k p) (hy : ρ y = .int k q) (h0 : q ≠ 0) (h : k.wrap (p.tdiv q) = r) : OpOk P (Oper.mk dst (.binOp .quo t x y t') ty pos after guard) ρ (.int k r) :=
  .still fun S w a _ hr => ⟨_, .fz (.int _ _), fun K Q hk => r_quo (argI hr hx (by simp [Op.operands])) (argI hr hy (by simp [Op.operands])) h0 h hk⟩
theorem ok_rem (hx : ρ x = .int k p) (hy : ρ y = .int k q) (h0 : q ≠ 0) (h : p.tmod q = r) : OpOk P (Oper.mk dst (.binOp .rem t x y t') ty pos after guard) ρ (.int k r) :=
  .still fun S w a _ hr => ⟨_, .fz (.int _ _), fun K Q hk => r_rem (argI hr hx (by simp [Op.operands])) (argI hr hy (by simp [Op.operands])) h0 h hk⟩
theorem ok_shr {k' : IntKind} (hx : ρ x = .int k p) (hy : ρ y = .int k' q) (h0 : 0 ≤ q) (h1 : q ≤ k.bits) (h : p / 2 ^ q.toNat = r) : OpOk P (Oper.mk dst (.binOp .shr t x y t') ty pos after guard) ρ (.int k r) :=
  .still fun S w a _ hr => ⟨_, .fz (.int _ _), fun K Q hk => wp_run (v := .int k r) (by
    have hx' := argI hr hx (by simp [Op.operands])
    have hy' := argI hr hy (by simp [Op.operands])
    have he : (eqGuard .shr t x y (.int k p) (.int k' q)).run P w = .ok () w := rfl
    have hb : (binOp .shr t (.int k p) (.int k' q)).run P w = .ok (.int k r) w := by
      rw [show binOp .shr t (.int k p) (.int k' q) = Op.shift .shr k p k' q from rfl, shift_shr k k' p q h0 h1, h]
      rfl
    simp only [execOp, hx', hy', Sem.run_bind, he, Result.andThen_ok, hb, Sem.run_pure]) hk⟩
theorem ok_eql (hx : ρ x = .int k p) (hy : ρ y = .int k q) : OpOk P (Oper.mk dst (.binOp .eql t x y t') ty pos after guard) ρ (.bool (p == q)) :=
  .still fun S w a _ hr => ⟨_, .fz (.bool _), fun K Q hk => r_eql (argI hr hx (by simp [Op.operands])) (argI hr hy (by simp [Op.operands])) hk⟩
theorem ok_neq (hx : ρ x = .int k p) (hy : ρ y = .int k q) : OpOk P (Oper.mk dst (.binOp .neq t x y t') ty pos after guard) ρ (.bool !(p == q)) :=
  .still fun S w a _ hr => ⟨_, .fz (.bool _), fun K Q hk => r_neq (argI hr hx (by simp [Op.operands])) (argI hr hy (by simp [Op.operands])) hk⟩
theorem ok_lss (hx : ρ x = .int k p) (hy : ρ y = .int k q) : OpOk P (Oper.mk dst (.binOp .lss t x y t') ty pos after guard) ρ (.bool (decide (p < q))) :=
  .still fun S w a _ hr => ⟨_, .fz (.bool _), fun K Q hk => r_lss (argI hr hx (by simp [Op.operands])) (argI hr hy (by simp [Op.operands])) hk⟩
theorem ok_leq (hx : ρ x = .int k p) (hy : ρ y = .int k q) : OpOk P (Oper.mk dst (.binOp .leq t x y t') ty pos after guard) ρ (.bool (decide (p ≤ q))) :=
  .still fun S w a _ hr => ⟨_, .fz (.bool _), fun K Q hk => r_leq (argI hr hx (by simp [Op.operands])) (argI hr hy (by simp [Op.operands])) hk⟩
theorem ok_gtr (hx : ρ x = .int k p) (hy : ρ y = .int k q) : OpOk P (Oper.mk dst (.binOp .gtr t x y t') ty pos after guard) ρ (.bool (decide (q < p))) :=
  .still fun S w a _ hr => ⟨_, .fz (.bool _), fun K Q hk => r_gtr (argI hr hx (by simp [Op.operands])) (argI hr hy (by simp [Op.operands])) hk⟩
theorem ok_geq (hx : ρ x = .int k p) (hy : ρ y = .int k q) : OpOk P (Oper.mk dst (.binOp .geq t x y t') ty pos after guard) ρ (.bool (decide (q ≤ p))) :=
  .still fun S w a _ hr => ⟨_, .fz (.bool _), fun K Q hk => r_geq (argI hr hx (by simp [Op.operands])) (argI hr hy (by simp [Op.operands])) hk⟩
theorem ok_max {ts : Array TypeId} (hx : ρ x = .int k p) (hy : ρ y = .int k q) : OpOk P (Oper.mk dst (.call ⟨.builtin .max, #[x, y], ts⟩) ty pos after guard) ρ (.int k (max p q)) :=
  .still fun S w a _ hr => ⟨_, .fz (.int _ _), fun K Q hk => r_max (argI hr hx (by simp [Op.operands, Call.operands])) (argI hr hy (by simp [Op.operands, Call.operands])) hk⟩
theorem ok_min {ts : Array TypeId} (hx : ρ x = .int k p) (hy : ρ y = .int k q) : OpOk P (Oper.mk dst (.call ⟨.builtin .min, #[x, y], ts⟩) ty pos after guard) ρ (.int k (min p q)) :=
  .still fun S w a _ hr => ⟨_, .fz (.int _ _), fun K Q hk => r_min (argI hr hx (by simp [Op.operands, Call.operands])) (argI hr hy (by simp [Op.operands, Call.operands])) hk⟩
theorem ok_conv {k' : IntKind} [i : TInt P t' k] (hs : ∃ d, P.underlying t = some d) (hx : ρ x = .int k' p) (h : k.wrap p = r) : OpOk P (Oper.mk dst (.convert t t' x) ty pos after guard) ρ (.int k r) :=
  .still fun S w a _ hr => ⟨_, .fz (.int _ _), fun K Q hk => r_conv hs.choose_spec (argI hr hx (by simp [Op.operands])) h hk⟩
end
section
variable {x y : Operand} {t t' : TypeId} {b c : Bool} {s u : List UInt8}
theorem ok_boolEq [TBool P t] (hx : ρ x = .bool b) (hy : ρ y = .bool c) : OpOk P (Oper.mk dst (.binOp .eql t x y t') ty pos after guard) ρ (.bool (b == c)) :=
  .still fun S w a _ hr => ⟨_, .fz (.bool _), fun K Q hk => r_boolEq (argB hr hx (by simp [Op.operands])) (argB hr hy (by simp [Op.operands])) hk⟩
theorem ok_boolNe [TBool P t] (hx : ρ x = .bool b) (hy : ρ y = .bool c) : OpOk P (Oper.mk dst (.binOp .neq t x y t') ty pos after guard) ρ (.bool !(b == c)) :=
  .still fun S w a _ hr => ⟨_, .fz (.bool _), fun K Q hk => r_boolNe (argB hr hx (by simp [Op.operands])) (argB hr hy (by simp [Op.operands])) hk⟩
theorem ok_cat (hx : ρ x = .str s) (hy : ρ y = .str u) (hl : s.length + u.length ≤ 9223372036854775807) : OpOk P (Oper.mk dst (.binOp .add t x y t') ty pos after guard) ρ (.str (s ++ u)) :=
  .still fun S w a _ hr => ⟨_, .fz (.str _), fun K Q hk => r_cat (argS hr hx (by simp [Op.operands])) (argS hr hy (by simp [Op.operands])) hl hk⟩
theorem ok_seql (hx : ρ x = .str s) (hy : ρ y = .str u) : OpOk P (Oper.mk dst (.binOp .eql t x y t') ty pos after guard) ρ (.bool (s == u)) :=
  .still fun S w a _ hr => ⟨_, .fz (.bool _), fun K Q hk => r_seql (argS hr hx (by simp [Op.operands])) (argS hr hy (by simp [Op.operands])) hk⟩
theorem ok_sneq (hx : ρ x = .str s) (hy : ρ y = .str u) : OpOk P (Oper.mk dst (.binOp .neq t x y t') ty pos after guard) ρ (.bool !(s == u)) :=
  .still fun S w a _ hr => ⟨_, .fz (.bool _), fun K Q hk => r_sneq (argS hr hx (by simp [Op.operands])) (argS hr hy (by simp [Op.operands])) hk⟩
theorem ok_slss (hx : ρ x = .str s) (hy : ρ y = .str u) : OpOk P (Oper.mk dst (.binOp .lss t x y t') ty pos after guard) ρ (.bool (Op.bytesLess s u)) :=
  .still fun S w a _ hr => ⟨_, .fz (.bool _), fun K Q hk => r_slss (argS hr hx (by simp [Op.operands])) (argS hr hy (by simp [Op.operands])) hk⟩
theorem ok_sleq (hx : ρ x = .str s) (hy : ρ y = .str u) : OpOk P (Oper.mk dst (.binOp .leq t x y t') ty pos after guard) ρ (.bool (Op.bytesLess s u || s == u)) :=
  .still fun S w a _ hr => ⟨_, .fz (.bool _), fun K Q hk => r_sleq (argS hr hx (by simp [Op.operands])) (argS hr hy (by simp [Op.operands])) hk⟩
theorem r_sgtr {x y : Operand} {t t' : TypeId} {s u : List UInt8} {Q : Exit → Act → World → Prop} {K : Act → World → Prop} {a : Act} {w : World} (hx : a.eval x = .string ⟨s.toArray⟩) (hy : a.eval y = .string ⟨u.toArray⟩) (hk : K (a.put dst (.bool (!(Op.bytesLess s u || s == u)))) w) : (Oper.mk dst (.binOp .gtr t x y t') ty pos after guard).wp P a w K Q :=
  str_run hx hy (by simp [binOp, Op.stringOp]) hk
theorem r_sgeq {x y : Operand} {t t' : TypeId} {s u : List UInt8} {Q : Exit → Act → World → Prop} {K : Act → World → Prop} {a : Act} {w : World} (hx : a.eval x = .string ⟨s.toArray⟩) (hy : a.eval y = .string ⟨u.toArray⟩) (hk : K (a.put dst (.bool (!Op.bytesLess s u))) w) : (Oper.mk dst (.binOp .geq t x y t') ty pos after guard).wp P a w K Q :=
  str_run hx hy (by simp [binOp, Op.stringOp]) hk
theorem ok_sgtr (hx : ρ x = .str s) (hy : ρ y = .str u) : OpOk P (Oper.mk dst (.binOp .gtr t x y t') ty pos after guard) ρ (.bool (!(Op.bytesLess s u || s == u))) :=
  .still fun S w a _ hr => ⟨_, .fz (.bool _), fun K Q hk => r_sgtr (argS hr hx (by simp [Op.operands])) (argS hr hy (by simp [Op.operands])) hk⟩
theorem ok_sgeq (hx : ρ x = .str s) (hy : ρ y = .str u) : OpOk P (Oper.mk dst (.binOp .geq t x y t') ty pos after guard) ρ (.bool (!Op.bytesLess s u)) :=
  .still fun S w a _ hr => ⟨_, .fz (.bool _), fun K Q hk => r_sgeq (argS hr hx (by simp [Op.operands])) (argS hr hy (by simp [Op.operands])) hk⟩
theorem ok_lenS [TStr P t] (hx : ρ x = .str s) : OpOk P (Oper.mk dst (.call ⟨.builtin .len, #[x], #[t]⟩) ty pos after guard) ρ (.int .i64 s.length) :=
  .still fun S w a _ hr => ⟨_, .fz (.int _ _), fun K Q hk => r_len_str (argS hr hx (by simp [Op.operands, Call.operands])) hk⟩
theorem ok_indexS [TStr P t] {k : IntKind} {n : Int} (hx : ρ x = .str s) (hy : ρ y = .int k n) (h0 : 0 ≤ n) (h1 : n < s.length) : OpOk P (Oper.mk dst (.index t x y) ty pos after guard) ρ (.int .u8 (s.getD n.toNat 0).toNat) :=
  .still fun S w a _ hr => ⟨_, .fz (.int _ _), fun K Q hk => r_index_str (argS hr hx (by simp [Op.operands])) (argI hr hy (by simp [Op.operands])) h0 h1 hk⟩
def BndOk (ρ : Operand → D) (x : Option Operand) (dflt n : Int) : Prop := match x with
  | none => n = dflt
  | some o => ∃ k : IntKind, ρ o = .int k n
theorem ok_sliceS [TStr P t] {lo hi : Option Operand} {l h : Int} (hx : ρ x = .str s) (hl : BndOk ρ lo 0 l) (hh : BndOk ρ hi s.length h) (h0 : 0 ≤ l) (h1 : l ≤ h) (h2 : h ≤ s.length) : OpOk P (Oper.mk dst (.slice t x lo hi none) ty pos after guard) ρ (.str ((s.take h.toNat).drop l.toNat)) :=
  .still fun S w a _ hr => ⟨_, .fz (.str _), fun K Q hk => by
    refine r_slice_str (l := l.toNat) (h := h.toNat) (argS hr hx (by simp [Op.operands])) ?_ ?_ (by omega) (by omega) hk
    · cases lo with
      | none => simp only [BndOk] at hl; simp only; omega
      | some o =>
        obtain ⟨k, hk'⟩ := hl
        exact ⟨k, by rw [Int.toNat_of_nonneg h0]; exact argI hr hk' (by simp [Op.operands])⟩
    · cases hi with
      | none => simp only [BndOk] at hh; simp only; omega
      | some o =>
        obtain ⟨k, hk'⟩ := hh
        exact ⟨k, by rw [Int.toNat_of_nonneg (by omega)]; exact argI hr hk' (by simp [Op.operands])⟩⟩
end
end
end Go.Proofs.YtdopillligfdiaaDoor
