/- '==' between structs whose fields are whole numbers, texts and truth values. -/
import Derived.Test.YtdopillligfdiaaDoorApp
namespace Go.Proofs.YtdopillligfdiaaDoor
set_option linter.unusedSimpArgs false
set_option linter.unusedVariables false
open Go.RowKit

def kindCode : Option TypeDesc → Nat
  | some (.int _) => 0
  | some .string => 1
  | some .bool => 2
  | _ => 3
def veq : Value → Value → Bool
  | .int _ a, .int _ b => a == b
  | .string a, .string b => a.data.toList == b.data.toList
  | .bool a, .bool b => a == b
  | _, _ => false
def veqs : List Value → List Value → Bool
  | x :: xs, y :: ys => veq x y && veqs xs ys
  | _, _ => true
/-- The values are of these kinds. -/
def fitsV : List Nat → List Value → List Value → Bool
  | [], [], [] => true
  | 0 :: ks, .int k _ :: xs, .int k' _ :: ys => k == k' && fitsV ks xs ys
  | 1 :: ks, .string _ :: xs, .string _ :: ys => fitsV ks xs ys
  | 2 :: ks, .bool _ :: xs, .bool _ :: ys => fitsV ks xs ys
  | _, _, _ => false
class TEq (P : Program) (t : TypeId) (ks : outParam (List Nat)) : Prop where
  s : P.underlying t = some (.struct (P.fieldsOf t))
  h : (P.fieldsOf t).toList.map (fun f => (f.name == "_", f.offset, kindCode (P.underlying f.type))) = ks.zipIdx.map fun x => (false, x.2, x.1)
  held : P.stoodInHeld t = false
  guard : P.eqGuardType P.depth t = false
section
variable {P : Program}
theorem eqFields_run (d : Nat) (w : World) : ∀ (fs : List Field) (ks : List Nat) (xs ys px py : List Value), fs.map (fun f => (f.name == "_", f.offset, kindCode (P.underlying f.type))) = (ks.zipIdx px.length).map (fun x => (false, x.2, x.1)) → px.length = py.length → fitsV ks xs ys = true →
    (Op.eqFields (d + 1) (px ++ xs).toArray (py ++ ys).toArray fs).run P w = .ok (veqs xs ys) w
  | [], [], [], [], _, _, _, _, _ => rfl
  | [], _ :: _, _, _, _, _, h, _, _ => by simp at h
  | f :: fs, [], _, _, _, _, h, _, _ => by simp at h
  | [], [], _ :: _, _, _, _, _, _, h => by simp [fitsV] at h
  | [], [], [], _ :: _, _, _, _, _, h => by simp [fitsV] at h
  | f :: fs, k :: ks, xs, ys, px, py, h, hp, hf => by
    simp only [List.map_cons, List.zipIdx_cons, List.cons.injEq, Prod.mk.injEq] at h
    obtain ⟨⟨h1, h2, h3⟩, h4⟩ := h
    have hname : f.name ≠ "_" := by simpa using h1
    have next : ∀ (x y : Value) (xs' ys' : List Value), fitsV ks xs' ys' = true → (Op.eqFields (d + 1) (px ++ x :: xs').toArray (py ++ y :: ys').toArray fs).run P w = .ok (veqs xs' ys') w := fun x y xs' ys' hf' => by
      have := eqFields_run d w fs ks xs' ys' (px ++ [x]) (py ++ [y]) (by simpa using h4) (by simp [hp]) hf'
      simpa using this
    have parts : ∀ (t : TypeDesc) (x y : Value) (xs' ys' : List Value), P.underlying f.type = some t → aggDesc t = false →
        (part f.type (px ++ x :: xs').toArray f.offset).run P w = .ok x w ∧ (part f.type (py ++ y :: ys').toArray f.offset).run P w = .ok y w := fun t x y xs' ys' ht ha => by
      constructor <;> (unfold part; rw [Sem.run_bind, run_isAgg_of ht, ha]; simp [h2, hp])
    have step : ∀ (t : TypeDesc) (x y : Value) (xs' ys' : List Value) (b : Bool), P.underlying f.type = some t → aggDesc t = false → (Op.equalIn (d + 1) f.type x y).run P w = .ok b w → fitsV ks xs' ys' = true →
        (Op.eqFields (d + 1) (px ++ x :: xs').toArray (py ++ y :: ys').toArray (f :: fs)).run P w = .ok (b && veqs xs' ys') w := fun t x y xs' ys' b ht ha hb hf' => by
      obtain ⟨p1, p2⟩ := parts t x y xs' ys' ht ha
      simp only [Op.eqFields, if_pos hname, Sem.run_bind, p1, p2, hb, Result.andThen_ok]
      cases b
      · rfl
      · exact next x y xs' ys' hf'
    cases hu : P.underlying f.type with
    | none => rw [hu] at h3; simp [kindCode] at h3; subst h3; simp [fitsV] at hf
    | some t =>
      rw [hu] at h3
      cases t with
      | int kd =>
        simp only [kindCode] at h3
        subst h3
        match xs, ys, hf with
        | .int k1 a :: xs', .int k2 b :: ys', hf =>
          simp only [fitsV, Bool.and_eq_true, beq_iff_eq] at hf
          obtain ⟨rfl, hf⟩ := hf
          exact step _ _ _ xs' ys' _ hu rfl (run_equalIn_int w d f.type k1 kd a b hu) hf
      | string =>
        simp only [kindCode] at h3
        subst h3
        match xs, ys, hf with
        | .string a :: xs', .string b :: ys', hf =>
          have := run_equalIn_string w d f.type a b hu
          rw [ByteArray.toList_eq, ByteArray.toList_eq] at this
          exact step _ _ _ xs' ys' _ hu rfl this hf
      | bool =>
        simp only [kindCode] at h3
        subst h3
        match xs, ys, hf with
        | .bool a :: xs', .bool b :: ys', hf => exact step _ _ _ xs' ys' _ hu rfl (run_equalIn_bool' w d f.type a b hu) hf
      | _ => simp [kindCode] at h3; subst h3; simp [fitsV] at hf
theorem struct_eq (t : TypeId) {ks : List Nat} [e : TEq P t ks] (w : World) (d : Nat) (xs ys : List Value) (hf : fitsV ks xs ys = true) : (Op.equalIn (d + 2) t (.agg xs.toArray) (.agg ys.toArray)).run P w = .ok (veqs xs ys) w := by
  rw [run_equalIn_struct w (d + 1) t _ _ e.s e.held]
  exact eqFields_run d w _ ks xs ys [] [] (by simpa using e.h) rfl hf
end
section
variable {P : Program} {Q : Exit → Act → World → Prop} {K : Act → World → Prop} {a : Act} {w : World}
  {dst : Option Tmp} {ty : TypeId} {pos : String} {after : Array Edge} {guard : Option (Nat × Bool)} {ops : Array Oper} {rest : List Oper} {ss : List Spec} {fs : List (World → Prop)}
theorem r_structEq {x y : Operand} {t t' : TypeId} {ks : List Nat} {xs ys : List Value} [e : TEq P t ks] (hx : a.eval x = .agg xs.toArray) (hy : a.eval y = .agg ys.toArray) (hf : fitsV ks xs ys = true) (hk : K (a.put dst (.bool (veqs xs ys))) w) : (Oper.mk dst (.binOp .eql t x y t') ty pos after guard).wp P a w K Q := by
  refine wp_run ?_ hk
  have h1 := run_eqGuard_agg (P := P) w .eql t x y xs.toArray ys.toArray e.guard
  have h2 := run_eql_struct (P := P) w t xs.toArray ys.toArray
  rw [struct_eq t w 9998 xs ys hf] at h2
  simp only [execOp, hx, hy, Sem.run_bind, h1, h2, Result.andThen_ok, Sem.run_pure]
theorem r_structNe {x y : Operand} {t t' : TypeId} {ks : List Nat} {xs ys : List Value} [e : TEq P t ks] (hx : a.eval x = .agg xs.toArray) (hy : a.eval y = .agg ys.toArray) (hf : fitsV ks xs ys = true) (hk : K (a.put dst (.bool (!veqs xs ys))) w) : (Oper.mk dst (.binOp .neq t x y t') ty pos after guard).wp P a w K Q := by
  refine wp_run ?_ hk
  have h1 := run_eqGuard_agg (P := P) w .neq t x y xs.toArray ys.toArray e.guard
  have h2 := run_neq_struct (P := P) w t xs.toArray ys.toArray
  rw [struct_eq t w 9998 xs ys hf] at h2
  simp only [execOp, hx, hy, Sem.run_bind, h1, h2, Result.andThen_ok, Sem.run_pure]
theorem l_structEq {x y : Operand} {t t' : TypeId} {ks : List Nat} {xs ys : List Value} [e : TEq P t ks] (hx : a.eval x = .agg xs.toArray) (hy : a.eval y = .agg ys.toArray) (hf : fitsV ks xs ys = true) (hr : wpList P ops Q rest (a.put dst (.bool (veqs xs ys))) w) : wpList P ops Q (Oper.mk dst (.binOp .eql t x y t') ty pos after none :: rest) a w :=
  wpList_plain rfl fun _ hK => r_structEq hx hy hf (hK _ _ hr)
theorem l_structNe {x y : Operand} {t t' : TypeId} {ks : List Nat} {xs ys : List Value} [e : TEq P t ks] (hx : a.eval x = .agg xs.toArray) (hy : a.eval y = .agg ys.toArray) (hf : fitsV ks xs ys = true) (hr : wpList P ops Q rest (a.put dst (.bool (!veqs xs ys))) w) : wpList P ops Q (Oper.mk dst (.binOp .neq t x y t') ty pos after none :: rest) a w :=
  wpList_plain rfl fun _ hK => r_structNe hx hy hf (hK _ _ hr)
theorem p_structEq {x y : Operand} {t t' : TypeId} {ks : List Nat} {xs ys : List Value} [e : TEq P t ks] (hx : a.eval x = .agg xs.toArray) (hy : a.eval y = .agg ys.toArray) (hf : fitsV ks xs ys = true) (hr : ParSteps P ops Q w rest ss (fs ++ [fun _ => True]) (a.put dst (.bool (veqs xs ys)))) : ParSteps P ops Q w (Oper.mk dst (.binOp .eql t x y t') ty pos after none :: rest) (Spec.det (.bool (veqs xs ys)) :: ss) fs a :=
  par_val rfl (fun w1 hw1 K hK => r_structEq hx hy hf (hK _ (Ext.refl _))) hr
theorem p_structNe {x y : Operand} {t t' : TypeId} {ks : List Nat} {xs ys : List Value} [e : TEq P t ks] (hx : a.eval x = .agg xs.toArray) (hy : a.eval y = .agg ys.toArray) (hf : fitsV ks xs ys = true) (hr : ParSteps P ops Q w rest ss (fs ++ [fun _ => True]) (a.put dst (.bool (!veqs xs ys)))) : ParSteps P ops Q w (Oper.mk dst (.binOp .neq t x y t') ty pos after none :: rest) (Spec.det (.bool (!veqs xs ys)) :: ss) fs a :=
  par_val rfl (fun w1 hw1 K hK => r_structNe hx hy hf (hK _ (Ext.refl _))) hr
end
end Go.Proofs.YtdopillligfdiaaDoor
