/- The rules of XRules, for the next operation of a list (l_) and of a region whose order is open (p_). (Written by wip/genrules.py.) -/
import Derived.Test.YtdopillligfdiaaDoorRules
namespace Go.Proofs.YtdopillligfdiaaDoor
set_option linter.unusedSimpArgs false
set_option linter.unusedVariables false
open Go.RowKit
section
variable {P : Program} {Q : Exit → Act → World → Prop} {a : Act} {w : World} {dst : Option Tmp} {ty : TypeId} {pos : String} {after : Array Edge} {ops : Array Oper} {rest : List Oper} {ss : List Spec} {fs : List (World → Prop)}
theorem l_move {x : Operand} {v : Value} (hx : a.eval x = v) (hr : wpList P ops Q rest (a.put dst v) w) : wpList P ops Q (Oper.mk dst (.move x) ty pos after none :: rest) a w := by
  refine wpList_plain rfl fun K hK => ?_
  apply r_move <;> first | assumption | exact hK _ _ hr
theorem p_move {x : Operand} {v : Value} (hx : a.eval x = v) (hr : ParSteps P ops Q w rest ss (fs ++ [fun _ => True]) (a.put dst v)) : ParSteps P ops Q w (Oper.mk dst (.move x) ty pos after none :: rest) (Spec.det v :: ss) fs a := by
  refine par_val rfl (fun w1 hw1 K hK => ?_) hr
  apply r_move <;> first | assumption | exact hK _ (Ext.refl _) | exact Ext.cell hw1 (by assumption) | exact RowAt.ext (by assumption) hw1
theorem l_assign {x : Operand} {v : Value} (hx : a.eval x = v) (hr : wpList P ops Q rest (a.put dst v) w) : wpList P ops Q (Oper.mk dst (.assign x) ty pos after none :: rest) a w := by
  refine wpList_plain rfl fun K hK => ?_
  apply r_assign <;> first | assumption | exact hK _ _ hr
theorem p_assign {x : Operand} {v : Value} (hx : a.eval x = v) (hr : ParSteps P ops Q w rest ss (fs ++ [fun _ => True]) (a.put dst v)) : ParSteps P ops Q w (Oper.mk dst (.assign x) ty pos after none :: rest) (Spec.det v :: ss) fs a := by
  refine par_val rfl (fun w1 hw1 K hK => ?_) hr
  apply r_assign <;> first | assumption | exact hK _ (Ext.refl _) | exact Ext.cell hw1 (by assumption) | exact RowAt.ext (by assumption) hw1
theorem l_nilCheck {x : Operand} {p : Addr} (hx : a.eval x = .pointer (some p)) (hr : wpList P ops Q rest (a.put dst (.pointer (some p))) w) : wpList P ops Q (Oper.mk dst (.nilCheck x) ty pos after none :: rest) a w := by
  refine wpList_plain rfl fun K hK => ?_
  apply r_nilCheck <;> first | assumption | exact hK _ _ hr
theorem p_nilCheck {x : Operand} {p : Addr} (hx : a.eval x = .pointer (some p)) (hr : ParSteps P ops Q w rest ss (fs ++ [fun _ => True]) (a.put dst (.pointer (some p)))) : ParSteps P ops Q w (Oper.mk dst (.nilCheck x) ty pos after none :: rest) (Spec.det (.pointer (some p)) :: ss) fs a := by
  refine par_val rfl (fun w1 hw1 K hK => ?_) hr
  apply r_nilCheck <;> first | assumption | exact hK _ (Ext.refl _) | exact Ext.cell hw1 (by assumption) | exact RowAt.ext (by assumption) hw1
theorem l_extract {x : Operand} {i : Nat} {vs : List Value} {v : Value} (hx : a.eval x = .tuple vs.toArray) (hv : vs[i]? = some v) (hr : wpList P ops Q rest (a.put dst v) w) : wpList P ops Q (Oper.mk dst (.extract x i) ty pos after none :: rest) a w := by
  refine wpList_plain rfl fun K hK => ?_
  apply r_extract <;> first | assumption | exact hK _ _ hr
theorem p_extract {x : Operand} {i : Nat} {vs : List Value} {v : Value} (hx : a.eval x = .tuple vs.toArray) (hv : vs[i]? = some v) (hr : ParSteps P ops Q w rest ss (fs ++ [fun _ => True]) (a.put dst v)) : ParSteps P ops Q w (Oper.mk dst (.extract x i) ty pos after none :: rest) (Spec.det v :: ss) fs a := by
  refine par_val rfl (fun w1 hw1 K hK => ?_) hr
  apply r_extract <;> first | assumption | exact hK _ (Ext.refl _) | exact Ext.cell hw1 (by assumption) | exact RowAt.ext (by assumption) hw1
theorem l_not {x : Operand} {t : TypeId} {b : Bool} (hx : a.eval x = .bool b) (hr : wpList P ops Q rest (a.put dst (.bool (!b))) w) : wpList P ops Q (Oper.mk dst (.unOp .not t x) ty pos after none :: rest) a w := by
  refine wpList_plain rfl fun K hK => ?_
  apply r_not <;> first | assumption | exact hK _ _ hr
theorem p_not {x : Operand} {t : TypeId} {b : Bool} (hx : a.eval x = .bool b) (hr : ParSteps P ops Q w rest ss (fs ++ [fun _ => True]) (a.put dst (.bool (!b)))) : ParSteps P ops Q w (Oper.mk dst (.unOp .not t x) ty pos after none :: rest) (Spec.det (.bool (!b)) :: ss) fs a := by
  refine par_val rfl (fun w1 hw1 K hK => ?_) hr
  apply r_not <;> first | assumption | exact hK _ (Ext.refl _) | exact Ext.cell hw1 (by assumption) | exact RowAt.ext (by assumption) hw1
theorem l_add {x y : Operand} {t t' : TypeId} {k : IntKind} {p q : Int} {r : Int} (hx : a.eval x = .int k p) (hy : a.eval y = .int k q) (hr : k.wrap (p + q) = r) (hr : wpList P ops Q rest (a.put dst (.int k r)) w) : wpList P ops Q (Oper.mk dst (.binOp .add t x y t') ty pos after none :: rest) a w := by
  refine wpList_plain rfl fun K hK => ?_
  apply r_add <;> first | assumption | exact hK _ _ hr
theorem p_add {x y : Operand} {t t' : TypeId} {k : IntKind} {p q : Int} {r : Int} (hx : a.eval x = .int k p) (hy : a.eval y = .int k q) (hr : k.wrap (p + q) = r) (hr : ParSteps P ops Q w rest ss (fs ++ [fun _ => True]) (a.put dst (.int k r))) : ParSteps P ops Q w (Oper.mk dst (.binOp .add t x y t') ty pos after none :: rest) (Spec.det (.int k r) :: ss) fs a := by
  refine par_val rfl (fun w1 hw1 K hK => ?_) hr
  apply r_add <;> first | assumption | exact hK _ (Ext.refl _) | exact Ext.cell hw1 (by assumption) | exact RowAt.ext (by assumption) hw1
theorem l_sub {x y : Operand} {t t' : TypeId} {k : IntKind} {p q : Int} {r : Int} (hx : a.eval x = .int k p) (hy : a.eval y = .int k q) (hr : k.wrap (p - q) = r) (hr : wpList P ops Q rest (a.put dst (.int k r)) w) : wpList P ops Q (Oper.mk dst (.binOp .sub t x y t') ty pos after none :: rest) a w := by
  refine wpList_plain rfl fun K hK => ?_
  apply r_sub <;> first | assumption | exact hK _ _ hr
theorem p_sub {x y : Operand} {t t' : TypeId} {k : IntKind} {p q : Int} {r : Int} (hx : a.eval x = .int k p) (hy : a.eval y = .int k q) (hr : k.wrap (p - q) = r) (hr : ParSteps P ops Q w rest ss (fs ++ [fun _ => True]) (a.put dst (.int k r))) : ParSteps P ops Q w (Oper.mk dst (.binOp .sub t x y t') ty pos after none :: rest) (Spec.det (.int k r) :: ss) fs a := by
  refine par_val rfl (fun w1 hw1 K hK => ?_) hr
  apply r_sub <;> first | assumption | exact hK _ (Ext.refl _) | exact Ext.cell hw1 (by assumption) | exact RowAt.ext (by assumption) hw1
theorem l_mul {x y : Operand} {t t' : TypeId} {k : IntKind} {p q : Int} {r : Int} (hx : a.eval x = .int k p) (hy : a.eval y = .int k q) (hr : k.wrap (p * q) = r) (hr : wpList P ops Q rest (a.put dst (.int k r)) w) : wpList P ops Q (Oper.mk dst (.binOp .mul t x y t') ty pos after none :: rest) a w := by
  refine wpList_plain rfl fun K hK => ?_
  apply r_mul <;> first | assumption | exact hK _ _ hr
theorem p_mul {x y : Operand} {t t' : TypeId} {k : IntKind} {p q : Int} {r : Int} (hx : a.eval x = .int k p) (hy : a.eval y = .int k q) (hr : k.wrap (p * q) = r) (hr : ParSteps P ops Q w rest ss (fs ++ [fun _ => True]) (a.put dst (.int k r))) : ParSteps P ops Q w (Oper.mk dst (.binOp .mul t x y t') ty pos after none :: rest) (Spec.det (.int k r) :: ss) fs a := by
  refine par_val rfl (fun w1 hw1 K hK => ?_) hr
  apply r_mul <;> first | assumption | exact hK _ (Ext.refl _) | exact Ext.cell hw1 (by assumption) | exact RowAt.ext (by assumption) hw1
theorem l_quo {x y : Operand} {t t' : TypeId} {k : IntKind} {p q : Int} {r : Int} (hx : a.eval x = .int k p) (hy : a.eval y = .int k q) (h0 : q ≠ 0) (hr : k.wrap (p.tdiv q) = r) (hr : wpList P ops Q rest (a.put dst (.int k r)) w) : wpList P ops Q (Oper.mk dst (.binOp .quo t x y t') ty pos after none :: rest) a w := by
  refine wpList_plain rfl fun K hK => ?_
  apply r_quo <;> first | assumption | exact hK _ _ hr
theorem p_quo {x y : Operand} {t t' : TypeId} {k : IntKind} {p q : Int} {r : Int} (hx : a.eval x = .int k p) (hy : a.eval y = .int k q) (h0 : q ≠ 0) (hr : k.wrap (p.tdiv q) = r) (hr : ParSteps P ops Q w rest ss (fs ++ [fun _ => True]) (a.put dst (.int k r))) : ParSteps P ops Q w (Oper.mk dst (.binOp .quo t x y t') ty pos after none :: rest) (Spec.det (.int k r) :: ss) fs a := by
  refine par_val rfl (fun w1 hw1 K hK => ?_) hr
  apply r_quo <;> first | assumption | exact hK _ (Ext.refl _) | exact Ext.cell hw1 (by assumption) | exact RowAt.ext (by assumption) hw1
theorem l_rem {x y : Operand} {t t' : TypeId} {k : IntKind} {p q : Int} {r : Int} (hx : a.eval x = .int k p) (hy : a.eval y = .int k q) (h0 : q ≠ 0) (hr : p.tmod q = r) (hr : wpList P ops Q rest (a.put dst (.int k r)) w) : wpList P ops Q (Oper.mk dst (.binOp .rem t x y t') ty pos after none :: rest) a w := by
  refine wpList_plain rfl fun K hK => ?_
  apply r_rem <;> first | assumption | exact hK _ _ hr
theorem p_rem {x y : Operand} {t t' : TypeId} {k : IntKind} {p q : Int} {r : Int} (hx : a.eval x = .int k p) (hy : a.eval y = .int k q) (h0 : q ≠ 0) (hr : p.tmod q = r) (hr : ParSteps P ops Q w rest ss (fs ++ [fun _ => True]) (a.put dst (.int k r))) : ParSteps P ops Q w (Oper.mk dst (.binOp .rem t x y t') ty pos after none :: rest) (Spec.det (.int k r) :: ss) fs a := by
  refine par_val rfl (fun w1 hw1 K hK => ?_) hr
  apply r_rem <;> first | assumption | exact hK _ (Ext.refl _) | exact Ext.cell hw1 (by assumption) | exact RowAt.ext (by assumption) hw1
theorem l_neg {x : Operand} {t : TypeId} {k : IntKind} {p : Int} {r : Int} (hx : a.eval x = .int k p) (hr : k.wrap (0 - p) = r) (hr : wpList P ops Q rest (a.put dst (.int k r)) w) : wpList P ops Q (Oper.mk dst (.unOp .neg t x) ty pos after none :: rest) a w := by
  refine wpList_plain rfl fun K hK => ?_
  apply r_neg <;> first | assumption | exact hK _ _ hr
theorem p_neg {x : Operand} {t : TypeId} {k : IntKind} {p : Int} {r : Int} (hx : a.eval x = .int k p) (hr : k.wrap (0 - p) = r) (hr : ParSteps P ops Q w rest ss (fs ++ [fun _ => True]) (a.put dst (.int k r))) : ParSteps P ops Q w (Oper.mk dst (.unOp .neg t x) ty pos after none :: rest) (Spec.det (.int k r) :: ss) fs a := by
  refine par_val rfl (fun w1 hw1 K hK => ?_) hr
  apply r_neg <;> first | assumption | exact hK _ (Ext.refl _) | exact Ext.cell hw1 (by assumption) | exact RowAt.ext (by assumption) hw1
theorem l_eql {x y : Operand} {t t' : TypeId} {k : IntKind} {p q : Int} (hx : a.eval x = .int k p) (hy : a.eval y = .int k q) (hr : wpList P ops Q rest (a.put dst (.bool (p == q))) w) : wpList P ops Q (Oper.mk dst (.binOp .eql t x y t') ty pos after none :: rest) a w := by
  refine wpList_plain rfl fun K hK => ?_
  apply r_eql <;> first | assumption | exact hK _ _ hr
theorem p_eql {x y : Operand} {t t' : TypeId} {k : IntKind} {p q : Int} (hx : a.eval x = .int k p) (hy : a.eval y = .int k q) (hr : ParSteps P ops Q w rest ss (fs ++ [fun _ => True]) (a.put dst (.bool (p == q)))) : ParSteps P ops Q w (Oper.mk dst (.binOp .eql t x y t') ty pos after none :: rest) (Spec.det (.bool (p == q)) :: ss) fs a := by
  refine par_val rfl (fun w1 hw1 K hK => ?_) hr
  apply r_eql <;> first | assumption | exact hK _ (Ext.refl _) | exact Ext.cell hw1 (by assumption) | exact RowAt.ext (by assumption) hw1
theorem l_neq {x y : Operand} {t t' : TypeId} {k : IntKind} {p q : Int} (hx : a.eval x = .int k p) (hy : a.eval y = .int k q) (hr : wpList P ops Q rest (a.put dst (.bool (!(p == q)))) w) : wpList P ops Q (Oper.mk dst (.binOp .neq t x y t') ty pos after none :: rest) a w := by
  refine wpList_plain rfl fun K hK => ?_
  apply r_neq <;> first | assumption | exact hK _ _ hr
theorem p_neq {x y : Operand} {t t' : TypeId} {k : IntKind} {p q : Int} (hx : a.eval x = .int k p) (hy : a.eval y = .int k q) (hr : ParSteps P ops Q w rest ss (fs ++ [fun _ => True]) (a.put dst (.bool (!(p == q))))) : ParSteps P ops Q w (Oper.mk dst (.binOp .neq t x y t') ty pos after none :: rest) (Spec.det (.bool (!(p == q))) :: ss) fs a := by
  refine par_val rfl (fun w1 hw1 K hK => ?_) hr
  apply r_neq <;> first | assumption | exact hK _ (Ext.refl _) | exact Ext.cell hw1 (by assumption) | exact RowAt.ext (by assumption) hw1
theorem l_lss {x y : Operand} {t t' : TypeId} {k : IntKind} {p q : Int} (hx : a.eval x = .int k p) (hy : a.eval y = .int k q) (hr : wpList P ops Q rest (a.put dst (.bool (decide (p < q)))) w) : wpList P ops Q (Oper.mk dst (.binOp .lss t x y t') ty pos after none :: rest) a w := by
  refine wpList_plain rfl fun K hK => ?_
  apply r_lss <;> first | assumption | exact hK _ _ hr
theorem p_lss {x y : Operand} {t t' : TypeId} {k : IntKind} {p q : Int} (hx : a.eval x = .int k p) (hy : a.eval y = .int k q) (hr : ParSteps P ops Q w rest ss (fs ++ [fun _ => True]) (a.put dst (.bool (decide (p < q))))) : ParSteps P ops Q w (Oper.mk dst (.binOp .lss t x y t') ty pos after none :: rest) (Spec.det (.bool (decide (p < q))) :: ss) fs a := by
  refine par_val rfl (fun w1 hw1 K hK => ?_) hr
  apply r_lss <;> first | assumption | exact hK _ (Ext.refl _) | exact Ext.cell hw1 (by assumption) | exact RowAt.ext (by assumption) hw1
theorem l_leq {x y : Operand} {t t' : TypeId} {k : IntKind} {p q : Int} (hx : a.eval x = .int k p) (hy : a.eval y = .int k q) (hr : wpList P ops Q rest (a.put dst (.bool (decide (p ≤ q)))) w) : wpList P ops Q (Oper.mk dst (.binOp .leq t x y t') ty pos after none :: rest) a w := by
  refine wpList_plain rfl fun K hK => ?_
  apply r_leq <;> first | assumption | exact hK _ _ hr
theorem p_leq {x y : Operand} {t t' : TypeId} {k : IntKind} {p q : Int} (hx : a.eval x = .int k p) (hy : a.eval y = .int k q) (hr : ParSteps P ops Q w rest ss (fs ++ [fun _ => True]) (a.put dst (.bool (decide (p ≤ q))))) : ParSteps P ops Q w (Oper.mk dst (.binOp .leq t x y t') ty pos after none :: rest) (Spec.det (.bool (decide (p ≤ q))) :: ss) fs a := by
  refine par_val rfl (fun w1 hw1 K hK => ?_) hr
  apply r_leq <;> first | assumption | exact hK _ (Ext.refl _) | exact Ext.cell hw1 (by assumption) | exact RowAt.ext (by assumption) hw1
theorem l_gtr {x y : Operand} {t t' : TypeId} {k : IntKind} {p q : Int} (hx : a.eval x = .int k p) (hy : a.eval y = .int k q) (hr : wpList P ops Q rest (a.put dst (.bool (decide (q < p)))) w) : wpList P ops Q (Oper.mk dst (.binOp .gtr t x y t') ty pos after none :: rest) a w := by
  refine wpList_plain rfl fun K hK => ?_
  apply r_gtr <;> first | assumption | exact hK _ _ hr
theorem p_gtr {x y : Operand} {t t' : TypeId} {k : IntKind} {p q : Int} (hx : a.eval x = .int k p) (hy : a.eval y = .int k q) (hr : ParSteps P ops Q w rest ss (fs ++ [fun _ => True]) (a.put dst (.bool (decide (q < p))))) : ParSteps P ops Q w (Oper.mk dst (.binOp .gtr t x y t') ty pos after none :: rest) (Spec.det (.bool (decide (q < p))) :: ss) fs a := by
  refine par_val rfl (fun w1 hw1 K hK => ?_) hr
  apply r_gtr <;> first | assumption | exact hK _ (Ext.refl _) | exact Ext.cell hw1 (by assumption) | exact RowAt.ext (by assumption) hw1
theorem l_geq {x y : Operand} {t t' : TypeId} {k : IntKind} {p q : Int} (hx : a.eval x = .int k p) (hy : a.eval y = .int k q) (hr : wpList P ops Q rest (a.put dst (.bool (decide (q ≤ p)))) w) : wpList P ops Q (Oper.mk dst (.binOp .geq t x y t') ty pos after none :: rest) a w := by
  refine wpList_plain rfl fun K hK => ?_
  apply r_geq <;> first | assumption | exact hK _ _ hr
theorem p_geq {x y : Operand} {t t' : TypeId} {k : IntKind} {p q : Int} (hx : a.eval x = .int k p) (hy : a.eval y = .int k q) (hr : ParSteps P ops Q w rest ss (fs ++ [fun _ => True]) (a.put dst (.bool (decide (q ≤ p))))) : ParSteps P ops Q w (Oper.mk dst (.binOp .geq t x y t') ty pos after none :: rest) (Spec.det (.bool (decide (q ≤ p))) :: ss) fs a := by
  refine par_val rfl (fun w1 hw1 K hK => ?_) hr
  apply r_geq <;> first | assumption | exact hK _ (Ext.refl _) | exact Ext.cell hw1 (by assumption) | exact RowAt.ext (by assumption) hw1
theorem l_max {x y : Operand}  {k : IntKind} {p q : Int} {ts : Array TypeId} (hx : a.eval x = .int k p) (hy : a.eval y = .int k q) (hr : wpList P ops Q rest (a.put dst (.int k (max p q))) w) : wpList P ops Q (Oper.mk dst (.call ⟨.builtin .max, #[x, y], ts⟩) ty pos after none :: rest) a w := by
  refine wpList_plain rfl fun K hK => ?_
  apply r_max <;> first | assumption | exact hK _ _ hr
theorem p_max {x y : Operand}  {k : IntKind} {p q : Int} {ts : Array TypeId} (hx : a.eval x = .int k p) (hy : a.eval y = .int k q) (hr : ParSteps P ops Q w rest ss (fs ++ [fun _ => True]) (a.put dst (.int k (max p q)))) : ParSteps P ops Q w (Oper.mk dst (.call ⟨.builtin .max, #[x, y], ts⟩) ty pos after none :: rest) (Spec.det (.int k (max p q)) :: ss) fs a := by
  refine par_val rfl (fun w1 hw1 K hK => ?_) hr
  apply r_max <;> first | assumption | exact hK _ (Ext.refl _) | exact Ext.cell hw1 (by assumption) | exact RowAt.ext (by assumption) hw1
theorem l_min {x y : Operand}  {k : IntKind} {p q : Int} {ts : Array TypeId} (hx : a.eval x = .int k p) (hy : a.eval y = .int k q) (hr : wpList P ops Q rest (a.put dst (.int k (min p q))) w) : wpList P ops Q (Oper.mk dst (.call ⟨.builtin .min, #[x, y], ts⟩) ty pos after none :: rest) a w := by
  refine wpList_plain rfl fun K hK => ?_
  apply r_min <;> first | assumption | exact hK _ _ hr
theorem p_min {x y : Operand}  {k : IntKind} {p q : Int} {ts : Array TypeId} (hx : a.eval x = .int k p) (hy : a.eval y = .int k q) (hr : ParSteps P ops Q w rest ss (fs ++ [fun _ => True]) (a.put dst (.int k (min p q)))) : ParSteps P ops Q w (Oper.mk dst (.call ⟨.builtin .min, #[x, y], ts⟩) ty pos after none :: rest) (Spec.det (.int k (min p q)) :: ss) fs a := by
  refine par_val rfl (fun w1 hw1 K hK => ?_) hr
  apply r_min <;> first | assumption | exact hK _ (Ext.refl _) | exact Ext.cell hw1 (by assumption) | exact RowAt.ext (by assumption) hw1
theorem l_conv {x : Operand} {t' : TypeId} {k : IntKind} {p : Int} [i : TInt P t' k] {k' : IntKind} {r : Int} {s : TypeId} {d : TypeDesc} (hs : P.underlying s = some d) (hx : a.eval x = .int k' p) (hr : k.wrap p = r) (hr : wpList P ops Q rest (a.put dst (.int k r)) w) : wpList P ops Q (Oper.mk dst (.convert s t' x) ty pos after none :: rest) a w := by
  refine wpList_plain rfl fun K hK => ?_
  apply r_conv <;> first | assumption | exact hK _ _ hr
theorem p_conv {x : Operand} {t' : TypeId} {k : IntKind} {p : Int} [i : TInt P t' k] {k' : IntKind} {r : Int} {s : TypeId} {d : TypeDesc} (hs : P.underlying s = some d) (hx : a.eval x = .int k' p) (hr : k.wrap p = r) (hr : ParSteps P ops Q w rest ss (fs ++ [fun _ => True]) (a.put dst (.int k r))) : ParSteps P ops Q w (Oper.mk dst (.convert s t' x) ty pos after none :: rest) (Spec.det (.int k r) :: ss) fs a := by
  refine par_val rfl (fun w1 hw1 K hK => ?_) hr
  apply r_conv <;> first | assumption | exact hK _ (Ext.refl _) | exact Ext.cell hw1 (by assumption) | exact RowAt.ext (by assumption) hw1
theorem l_boolEq {x y : Operand} {t t' : TypeId}   [i : TBool P t] {b c : Bool} (hx : a.eval x = .bool b) (hy : a.eval y = .bool c) (hr : wpList P ops Q rest (a.put dst (.bool (b == c))) w) : wpList P ops Q (Oper.mk dst (.binOp .eql t x y t') ty pos after none :: rest) a w := by
  refine wpList_plain rfl fun K hK => ?_
  apply r_boolEq <;> first | assumption | exact hK _ _ hr
theorem p_boolEq {x y : Operand} {t t' : TypeId}   [i : TBool P t] {b c : Bool} (hx : a.eval x = .bool b) (hy : a.eval y = .bool c) (hr : ParSteps P ops Q w rest ss (fs ++ [fun _ => True]) (a.put dst (.bool (b == c)))) : ParSteps P ops Q w (Oper.mk dst (.binOp .eql t x y t') ty pos after none :: rest) (Spec.det (.bool (b == c)) :: ss) fs a := by
  refine par_val rfl (fun w1 hw1 K hK => ?_) hr
  apply r_boolEq <;> first | assumption | exact hK _ (Ext.refl _) | exact Ext.cell hw1 (by assumption) | exact RowAt.ext (by assumption) hw1
theorem l_boolNe {x y : Operand} {t t' : TypeId}   [i : TBool P t] {b c : Bool} (hx : a.eval x = .bool b) (hy : a.eval y = .bool c) (hr : wpList P ops Q rest (a.put dst (.bool (!(b == c)))) w) : wpList P ops Q (Oper.mk dst (.binOp .neq t x y t') ty pos after none :: rest) a w := by
  refine wpList_plain rfl fun K hK => ?_
  apply r_boolNe <;> first | assumption | exact hK _ _ hr
theorem p_boolNe {x y : Operand} {t t' : TypeId}   [i : TBool P t] {b c : Bool} (hx : a.eval x = .bool b) (hy : a.eval y = .bool c) (hr : ParSteps P ops Q w rest ss (fs ++ [fun _ => True]) (a.put dst (.bool (!(b == c))))) : ParSteps P ops Q w (Oper.mk dst (.binOp .neq t x y t') ty pos after none :: rest) (Spec.det (.bool (!(b == c))) :: ss) fs a := by
  refine par_val rfl (fun w1 hw1 K hK => ?_) hr
  apply r_boolNe <;> first | assumption | exact hK _ (Ext.refl _) | exact Ext.cell hw1 (by assumption) | exact RowAt.ext (by assumption) hw1
theorem l_cat {x y : Operand} {t t' : TypeId} {s u : List UInt8} (hx : a.eval x = .string ⟨s.toArray⟩) (hy : a.eval y = .string ⟨u.toArray⟩) (hl : s.length + u.length ≤ 9223372036854775807) (hr : wpList P ops Q rest (a.put dst (.string ⟨(s ++ u).toArray⟩)) w) : wpList P ops Q (Oper.mk dst (.binOp .add t x y t') ty pos after none :: rest) a w := by
  refine wpList_plain rfl fun K hK => ?_
  apply r_cat <;> first | assumption | exact hK _ _ hr
theorem p_cat {x y : Operand} {t t' : TypeId} {s u : List UInt8} (hx : a.eval x = .string ⟨s.toArray⟩) (hy : a.eval y = .string ⟨u.toArray⟩) (hl : s.length + u.length ≤ 9223372036854775807) (hr : ParSteps P ops Q w rest ss (fs ++ [fun _ => True]) (a.put dst (.string ⟨(s ++ u).toArray⟩))) : ParSteps P ops Q w (Oper.mk dst (.binOp .add t x y t') ty pos after none :: rest) (Spec.det (.string ⟨(s ++ u).toArray⟩) :: ss) fs a := by
  refine par_val rfl (fun w1 hw1 K hK => ?_) hr
  apply r_cat <;> first | assumption | exact hK _ (Ext.refl _) | exact Ext.cell hw1 (by assumption) | exact RowAt.ext (by assumption) hw1
theorem l_seql {x y : Operand} {t t' : TypeId} {s u : List UInt8} (hx : a.eval x = .string ⟨s.toArray⟩) (hy : a.eval y = .string ⟨u.toArray⟩) (hr : wpList P ops Q rest (a.put dst (.bool (s == u))) w) : wpList P ops Q (Oper.mk dst (.binOp .eql t x y t') ty pos after none :: rest) a w := by
  refine wpList_plain rfl fun K hK => ?_
  apply r_seql <;> first | assumption | exact hK _ _ hr
theorem p_seql {x y : Operand} {t t' : TypeId} {s u : List UInt8} (hx : a.eval x = .string ⟨s.toArray⟩) (hy : a.eval y = .string ⟨u.toArray⟩) (hr : ParSteps P ops Q w rest ss (fs ++ [fun _ => True]) (a.put dst (.bool (s == u)))) : ParSteps P ops Q w (Oper.mk dst (.binOp .eql t x y t') ty pos after none :: rest) (Spec.det (.bool (s == u)) :: ss) fs a := by
  refine par_val rfl (fun w1 hw1 K hK => ?_) hr
  apply r_seql <;> first | assumption | exact hK _ (Ext.refl _) | exact Ext.cell hw1 (by assumption) | exact RowAt.ext (by assumption) hw1
theorem l_sneq {x y : Operand} {t t' : TypeId} {s u : List UInt8} (hx : a.eval x = .string ⟨s.toArray⟩) (hy : a.eval y = .string ⟨u.toArray⟩) (hr : wpList P ops Q rest (a.put dst (.bool (!(s == u)))) w) : wpList P ops Q (Oper.mk dst (.binOp .neq t x y t') ty pos after none :: rest) a w := by
  refine wpList_plain rfl fun K hK => ?_
  apply r_sneq <;> first | assumption | exact hK _ _ hr
theorem p_sneq {x y : Operand} {t t' : TypeId} {s u : List UInt8} (hx : a.eval x = .string ⟨s.toArray⟩) (hy : a.eval y = .string ⟨u.toArray⟩) (hr : ParSteps P ops Q w rest ss (fs ++ [fun _ => True]) (a.put dst (.bool (!(s == u))))) : ParSteps P ops Q w (Oper.mk dst (.binOp .neq t x y t') ty pos after none :: rest) (Spec.det (.bool (!(s == u))) :: ss) fs a := by
  refine par_val rfl (fun w1 hw1 K hK => ?_) hr
  apply r_sneq <;> first | assumption | exact hK _ (Ext.refl _) | exact Ext.cell hw1 (by assumption) | exact RowAt.ext (by assumption) hw1
theorem l_slss {x y : Operand} {t t' : TypeId} {s u : List UInt8} (hx : a.eval x = .string ⟨s.toArray⟩) (hy : a.eval y = .string ⟨u.toArray⟩) (hr : wpList P ops Q rest (a.put dst (.bool (Op.bytesLess s u))) w) : wpList P ops Q (Oper.mk dst (.binOp .lss t x y t') ty pos after none :: rest) a w := by
  refine wpList_plain rfl fun K hK => ?_
  apply r_slss <;> first | assumption | exact hK _ _ hr
theorem p_slss {x y : Operand} {t t' : TypeId} {s u : List UInt8} (hx : a.eval x = .string ⟨s.toArray⟩) (hy : a.eval y = .string ⟨u.toArray⟩) (hr : ParSteps P ops Q w rest ss (fs ++ [fun _ => True]) (a.put dst (.bool (Op.bytesLess s u)))) : ParSteps P ops Q w (Oper.mk dst (.binOp .lss t x y t') ty pos after none :: rest) (Spec.det (.bool (Op.bytesLess s u)) :: ss) fs a := by
  refine par_val rfl (fun w1 hw1 K hK => ?_) hr
  apply r_slss <;> first | assumption | exact hK _ (Ext.refl _) | exact Ext.cell hw1 (by assumption) | exact RowAt.ext (by assumption) hw1
theorem l_sleq {x y : Operand} {t t' : TypeId} {s u : List UInt8} (hx : a.eval x = .string ⟨s.toArray⟩) (hy : a.eval y = .string ⟨u.toArray⟩) (hr : wpList P ops Q rest (a.put dst (.bool (Op.bytesLess s u || s == u))) w) : wpList P ops Q (Oper.mk dst (.binOp .leq t x y t') ty pos after none :: rest) a w := by
  refine wpList_plain rfl fun K hK => ?_
  apply r_sleq <;> first | assumption | exact hK _ _ hr
theorem p_sleq {x y : Operand} {t t' : TypeId} {s u : List UInt8} (hx : a.eval x = .string ⟨s.toArray⟩) (hy : a.eval y = .string ⟨u.toArray⟩) (hr : ParSteps P ops Q w rest ss (fs ++ [fun _ => True]) (a.put dst (.bool (Op.bytesLess s u || s == u)))) : ParSteps P ops Q w (Oper.mk dst (.binOp .leq t x y t') ty pos after none :: rest) (Spec.det (.bool (Op.bytesLess s u || s == u)) :: ss) fs a := by
  refine par_val rfl (fun w1 hw1 K hK => ?_) hr
  apply r_sleq <;> first | assumption | exact hK _ (Ext.refl _) | exact Ext.cell hw1 (by assumption) | exact RowAt.ext (by assumption) hw1
theorem l_len_str {x : Operand} {t : TypeId} {s : List UInt8} [i : TStr P t] (hx : a.eval x = .string ⟨s.toArray⟩) (hr : wpList P ops Q rest (a.put dst (.int .i64 s.length)) w) : wpList P ops Q (Oper.mk dst (.call ⟨.builtin .len, #[x], #[t]⟩) ty pos after none :: rest) a w := by
  refine wpList_plain rfl fun K hK => ?_
  apply r_len_str <;> first | assumption | exact hK _ _ hr
theorem p_len_str {x : Operand} {t : TypeId} {s : List UInt8} [i : TStr P t] (hx : a.eval x = .string ⟨s.toArray⟩) (hr : ParSteps P ops Q w rest ss (fs ++ [fun _ => True]) (a.put dst (.int .i64 s.length))) : ParSteps P ops Q w (Oper.mk dst (.call ⟨.builtin .len, #[x], #[t]⟩) ty pos after none :: rest) (Spec.det (.int .i64 s.length) :: ss) fs a := by
  refine par_val rfl (fun w1 hw1 K hK => ?_) hr
  apply r_len_str <;> first | assumption | exact hK _ (Ext.refl _) | exact Ext.cell hw1 (by assumption) | exact RowAt.ext (by assumption) hw1
theorem l_index_str {x y : Operand} {t : TypeId} {s : List UInt8} [i : TStr P t] {k : IntKind} {n : Int} (hx : a.eval x = .string ⟨s.toArray⟩) (hy : a.eval y = .int k n) (h0 : 0 ≤ n) (h1 : n < s.length) (hr : wpList P ops Q rest (a.put dst (.int .u8 (s.getD n.toNat 0).toNat)) w) : wpList P ops Q (Oper.mk dst (.index t x y) ty pos after none :: rest) a w := by
  refine wpList_plain rfl fun K hK => ?_
  apply r_index_str <;> first | assumption | exact hK _ _ hr
theorem p_index_str {x y : Operand} {t : TypeId} {s : List UInt8} [i : TStr P t] {k : IntKind} {n : Int} (hx : a.eval x = .string ⟨s.toArray⟩) (hy : a.eval y = .int k n) (h0 : 0 ≤ n) (h1 : n < s.length) (hr : ParSteps P ops Q w rest ss (fs ++ [fun _ => True]) (a.put dst (.int .u8 (s.getD n.toNat 0).toNat))) : ParSteps P ops Q w (Oper.mk dst (.index t x y) ty pos after none :: rest) (Spec.det (.int .u8 (s.getD n.toNat 0).toNat) :: ss) fs a := by
  refine par_val rfl (fun w1 hw1 K hK => ?_) hr
  apply r_index_str <;> first | assumption | exact hK _ (Ext.refl _) | exact Ext.cell hw1 (by assumption) | exact RowAt.ext (by assumption) hw1
theorem l_slice_str {x : Operand} {t : TypeId} {s : List UInt8} [i : TStr P t] {lo hi : Option Operand} {l h : Nat} (hx : a.eval x = .string ⟨s.toArray⟩) (hl : match lo with | none => l = 0 | some o => ∃ k : IntKind, a.eval o = .int k (l : Int)) (hh : match hi with | none => h = s.length | some o => ∃ k : IntKind, a.eval o = .int k (h : Int)) (h1 : l ≤ h) (h2 : h ≤ s.length) (hr : wpList P ops Q rest (a.put dst (.string ⟨((s.take h).drop l).toArray⟩)) w) : wpList P ops Q (Oper.mk dst (.slice t x lo hi none) ty pos after none :: rest) a w := by
  refine wpList_plain rfl fun K hK => ?_
  apply r_slice_str <;> first | assumption | exact hK _ _ hr
theorem p_slice_str {x : Operand} {t : TypeId} {s : List UInt8} [i : TStr P t] {lo hi : Option Operand} {l h : Nat} (hx : a.eval x = .string ⟨s.toArray⟩) (hl : match lo with | none => l = 0 | some o => ∃ k : IntKind, a.eval o = .int k (l : Int)) (hh : match hi with | none => h = s.length | some o => ∃ k : IntKind, a.eval o = .int k (h : Int)) (h1 : l ≤ h) (h2 : h ≤ s.length) (hr : ParSteps P ops Q w rest ss (fs ++ [fun _ => True]) (a.put dst (.string ⟨((s.take h).drop l).toArray⟩))) : ParSteps P ops Q w (Oper.mk dst (.slice t x lo hi none) ty pos after none :: rest) (Spec.det (.string ⟨((s.take h).drop l).toArray⟩) :: ss) fs a := by
  refine par_val rfl (fun w1 hw1 K hK => ?_) hr
  apply r_slice_str <;> first | assumption | exact hK _ (Ext.refl _) | exact Ext.cell hw1 (by assumption) | exact RowAt.ext (by assumption) hw1
theorem l_field1 {x : Operand} {t : TypeId} {i off n : Nat} [f : TFld P t i off n false] {cs : List Value} {v : Value} (hx : a.eval x = .agg cs.toArray) (hv : cs[off]? = some v) (hr : wpList P ops Q rest (a.put dst v) w) : wpList P ops Q (Oper.mk dst (.field t x i) ty pos after none :: rest) a w := by
  refine wpList_plain rfl fun K hK => ?_
  apply r_field1 <;> first | assumption | exact hK _ _ hr
theorem p_field1 {x : Operand} {t : TypeId} {i off n : Nat} [f : TFld P t i off n false] {cs : List Value} {v : Value} (hx : a.eval x = .agg cs.toArray) (hv : cs[off]? = some v) (hr : ParSteps P ops Q w rest ss (fs ++ [fun _ => True]) (a.put dst v)) : ParSteps P ops Q w (Oper.mk dst (.field t x i) ty pos after none :: rest) (Spec.det v :: ss) fs a := by
  refine par_val rfl (fun w1 hw1 K hK => ?_) hr
  apply r_field1 <;> first | assumption | exact hK _ (Ext.refl _) | exact Ext.cell hw1 (by assumption) | exact RowAt.ext (by assumption) hw1
theorem l_fieldN {x : Operand} {t : TypeId} {i off n : Nat} [f : TFld P t i off n true] {cs : List Value} (hx : a.eval x = .agg cs.toArray) (hr : wpList P ops Q rest (a.put dst (.agg ((cs.drop off).take (n + 1)).toArray)) w) : wpList P ops Q (Oper.mk dst (.field t x i) ty pos after none :: rest) a w := by
  refine wpList_plain rfl fun K hK => ?_
  apply r_fieldN <;> first | assumption | exact hK _ _ hr
theorem p_fieldN {x : Operand} {t : TypeId} {i off n : Nat} [f : TFld P t i off n true] {cs : List Value} (hx : a.eval x = .agg cs.toArray) (hr : ParSteps P ops Q w rest ss (fs ++ [fun _ => True]) (a.put dst (.agg ((cs.drop off).take (n + 1)).toArray))) : ParSteps P ops Q w (Oper.mk dst (.field t x i) ty pos after none :: rest) (Spec.det (.agg ((cs.drop off).take (n + 1)).toArray) :: ss) fs a := by
  refine par_val rfl (fun w1 hw1 K hK => ?_) hr
  apply r_fieldN <;> first | assumption | exact hK _ (Ext.refl _) | exact Ext.cell hw1 (by assumption) | exact RowAt.ext (by assumption) hw1
theorem l_fieldAddr {x : Operand} {t : TypeId} {i off n : Nat} {ag : Bool} [f : TFld P t i off n ag] {b p : Nat} (hx : a.eval x = .pointer (some ⟨b, p, none⟩)) (hr : wpList P ops Q rest (a.put dst (.pointer (some ⟨b, p + off, none⟩))) w) : wpList P ops Q (Oper.mk dst (.fieldAddr t x i) ty pos after none :: rest) a w := by
  refine wpList_plain rfl fun K hK => ?_
  apply r_fieldAddr <;> first | assumption | exact hK _ _ hr
theorem p_fieldAddr {x : Operand} {t : TypeId} {i off n : Nat} {ag : Bool} [f : TFld P t i off n ag] {b p : Nat} (hx : a.eval x = .pointer (some ⟨b, p, none⟩)) (hr : ParSteps P ops Q w rest ss (fs ++ [fun _ => True]) (a.put dst (.pointer (some ⟨b, p + off, none⟩)))) : ParSteps P ops Q w (Oper.mk dst (.fieldAddr t x i) ty pos after none :: rest) (Spec.det (.pointer (some ⟨b, p + off, none⟩)) :: ss) fs a := by
  refine par_val rfl (fun w1 hw1 K hK => ?_) hr
  apply r_fieldAddr <;> first | assumption | exact hK _ (Ext.refl _) | exact Ext.cell hw1 (by assumption) | exact RowAt.ext (by assumption) hw1
theorem l_load1 {x : Operand} {t : TypeId} [i : TOne P t] {p : Addr} {v : Value} (hx : a.eval x = .pointer (some p)) (hc : w.cell? p = some v) (hr : wpList P ops Q rest (a.put dst v) w) : wpList P ops Q (Oper.mk dst (.load t x) ty pos after none :: rest) a w := by
  refine wpList_plain rfl fun K hK => ?_
  apply r_load1 <;> first | assumption | exact hK _ _ hr
theorem p_load1 {x : Operand} {t : TypeId} [i : TOne P t] {p : Addr} {v : Value} (hx : a.eval x = .pointer (some p)) (hc : w.cell? p = some v) (hr : ParSteps P ops Q w rest ss (fs ++ [fun _ => True]) (a.put dst v)) : ParSteps P ops Q w (Oper.mk dst (.load t x) ty pos after none :: rest) (Spec.det v :: ss) fs a := by
  refine par_val rfl (fun w1 hw1 K hK => ?_) hr
  apply r_load1 <;> first | assumption | exact hK _ (Ext.refl _) | exact Ext.cell hw1 (by assumption) | exact RowAt.ext (by assumption) hw1
theorem l_loadN {x : Operand} {t n : Nat} [i : TRow P t n] {b p : Nat} {cs : List Value} (hx : a.eval x = .pointer (some ⟨b, p, none⟩)) (hc : RowAt w b p cs) (hn : cs.length = n) (hr : wpList P ops Q rest (a.put dst (.agg cs.toArray)) w) : wpList P ops Q (Oper.mk dst (.load t x) ty pos after none :: rest) a w := by
  refine wpList_plain rfl fun K hK => ?_
  apply r_loadN <;> first | assumption | exact hK _ _ hr
theorem p_loadN {x : Operand} {t n : Nat} [i : TRow P t n] {b p : Nat} {cs : List Value} (hx : a.eval x = .pointer (some ⟨b, p, none⟩)) (hc : RowAt w b p cs) (hn : cs.length = n) (hr : ParSteps P ops Q w rest ss (fs ++ [fun _ => True]) (a.put dst (.agg cs.toArray))) : ParSteps P ops Q w (Oper.mk dst (.load t x) ty pos after none :: rest) (Spec.det (.agg cs.toArray) :: ss) fs a := by
  refine par_val rfl (fun w1 hw1 K hK => ?_) hr
  apply r_loadN <;> first | assumption | exact hK _ (Ext.refl _) | exact Ext.cell hw1 (by assumption) | exact RowAt.ext (by assumption) hw1
theorem l_indexAddr {x y : Operand} {t e n : Nat} [i : TSlice P t e] [z : TSize P e n] {b p l c : Nat} {k : IntKind} {j : Int} (hx : a.eval x = .slice (some ⟨b, p, none⟩) l c) (hy : a.eval y = .int k j) (h0 : 0 ≤ j) (h1 : j < l) (hr : wpList P ops Q rest (a.put dst (.pointer (some ⟨b, p + j.toNat * n, none⟩))) w) : wpList P ops Q (Oper.mk dst (.indexAddr t x y) ty pos after none :: rest) a w := by
  refine wpList_plain rfl fun K hK => ?_
  apply r_indexAddr <;> first | assumption | exact hK _ _ hr
theorem p_indexAddr {x y : Operand} {t e n : Nat} [i : TSlice P t e] [z : TSize P e n] {b p l c : Nat} {k : IntKind} {j : Int} (hx : a.eval x = .slice (some ⟨b, p, none⟩) l c) (hy : a.eval y = .int k j) (h0 : 0 ≤ j) (h1 : j < l) (hr : ParSteps P ops Q w rest ss (fs ++ [fun _ => True]) (a.put dst (.pointer (some ⟨b, p + j.toNat * n, none⟩)))) : ParSteps P ops Q w (Oper.mk dst (.indexAddr t x y) ty pos after none :: rest) (Spec.det (.pointer (some ⟨b, p + j.toNat * n, none⟩)) :: ss) fs a := by
  refine par_val rfl (fun w1 hw1 K hK => ?_) hr
  apply r_indexAddr <;> first | assumption | exact hK _ (Ext.refl _) | exact Ext.cell hw1 (by assumption) | exact RowAt.ext (by assumption) hw1
theorem l_len_slice {x : Operand} {t e : Nat} [i : TSlice P t e] {A : Option Addr} {l c : Nat} (hx : a.eval x = .slice A l c) (hr : wpList P ops Q rest (a.put dst (.int .i64 l)) w) : wpList P ops Q (Oper.mk dst (.call ⟨.builtin .len, #[x], #[t]⟩) ty pos after none :: rest) a w := by
  refine wpList_plain rfl fun K hK => ?_
  apply r_len_slice <;> first | assumption | exact hK _ _ hr
theorem p_len_slice {x : Operand} {t e : Nat} [i : TSlice P t e] {A : Option Addr} {l c : Nat} (hx : a.eval x = .slice A l c) (hr : ParSteps P ops Q w rest ss (fs ++ [fun _ => True]) (a.put dst (.int .i64 l))) : ParSteps P ops Q w (Oper.mk dst (.call ⟨.builtin .len, #[x], #[t]⟩) ty pos after none :: rest) (Spec.det (.int .i64 l) :: ss) fs a := by
  refine par_val rfl (fun w1 hw1 K hK => ?_) hr
  apply r_len_slice <;> first | assumption | exact hK _ (Ext.refl _) | exact Ext.cell hw1 (by assumption) | exact RowAt.ext (by assumption) hw1
theorem l_quo_nn {x y : Operand} {t t' : TypeId} {p q : Int} (hx : a.eval x = .int .i64 p) (hy : a.eval y = .int .i64 q) (h0 : 0 ≤ p) (h1 : 1 ≤ q) (h2 : p ≤ 9223372036854775807) (hr : wpList P ops Q rest (a.put dst (.int .i64 (p / q))) w) : wpList P ops Q (Oper.mk dst (.binOp .quo t x y t') ty pos after none :: rest) a w := by
  refine wpList_plain rfl fun K hK => ?_
  apply r_quo_nn <;> first | assumption | exact hK _ _ hr
theorem p_quo_nn {x y : Operand} {t t' : TypeId} {p q : Int} (hx : a.eval x = .int .i64 p) (hy : a.eval y = .int .i64 q) (h0 : 0 ≤ p) (h1 : 1 ≤ q) (h2 : p ≤ 9223372036854775807) (hr : ParSteps P ops Q w rest ss (fs ++ [fun _ => True]) (a.put dst (.int .i64 (p / q)))) : ParSteps P ops Q w (Oper.mk dst (.binOp .quo t x y t') ty pos after none :: rest) (Spec.det (.int .i64 (p / q)) :: ss) fs a := by
  refine par_val rfl (fun w1 hw1 K hK => ?_) hr
  apply r_quo_nn <;> first | assumption | exact hK _ (Ext.refl _) | exact Ext.cell hw1 (by assumption) | exact RowAt.ext (by assumption) hw1
theorem l_rem_nn {x y : Operand} {t t' : TypeId} {k : IntKind} {p q : Int} (hx : a.eval x = .int k p) (hy : a.eval y = .int k q) (h0 : 0 ≤ p) (h1 : 1 ≤ q) (hr : wpList P ops Q rest (a.put dst (.int k (p % q))) w) : wpList P ops Q (Oper.mk dst (.binOp .rem t x y t') ty pos after none :: rest) a w := by
  refine wpList_plain rfl fun K hK => ?_
  apply r_rem_nn <;> first | assumption | exact hK _ _ hr
theorem p_rem_nn {x y : Operand} {t t' : TypeId} {k : IntKind} {p q : Int} (hx : a.eval x = .int k p) (hy : a.eval y = .int k q) (h0 : 0 ≤ p) (h1 : 1 ≤ q) (hr : ParSteps P ops Q w rest ss (fs ++ [fun _ => True]) (a.put dst (.int k (p % q)))) : ParSteps P ops Q w (Oper.mk dst (.binOp .rem t x y t') ty pos after none :: rest) (Spec.det (.int k (p % q)) :: ss) fs a := by
  refine par_val rfl (fun w1 hw1 K hK => ?_) hr
  apply r_rem_nn <;> first | assumption | exact hK _ (Ext.refl _) | exact Ext.cell hw1 (by assumption) | exact RowAt.ext (by assumption) hw1
theorem l_box1 {x : Operand} {t : TypeId} {v : Value} (hx : a.eval x = v) (h1 : v.oneCell' = true) (hr : ∀ g w', Blk w' g t [v].toArray → Ext w w' → g = w.heap.size → wpList P ops Q rest (a.put dst (.pointer (some ⟨g, 0, none⟩))) w') : wpList P ops Q (Oper.mk dst (.box t x) ty pos after none :: rest) a w :=
  wpList_plain rfl fun _ hK => r_box1 hx h1 fun g w' h2 h3 h4 => hK _ _ (hr g w' h2 h3 h4)
theorem l_boxN {x : Operand} {t : TypeId} {cs : List Value} (hx : a.eval x = .agg cs.toArray) (hr : ∀ g w', Blk w' g t cs.toArray → Ext w w' → g = w.heap.size → wpList P ops Q rest (a.put dst (.pointer (some ⟨g, 0, none⟩))) w') : wpList P ops Q (Oper.mk dst (.box t x) ty pos after none :: rest) a w :=
  wpList_plain rfl fun _ hK => r_boxN hx fun g w' h2 h3 h4 => hK _ _ (hr g w' h2 h3 h4)
theorem l_enter {f : FuncId} [e : Enters P f] {xl : List Operand} {al : List Value} {ts : Array TypeId} (hx : xl.map a.eval = al)
    (hc : Calls P f al.toArray w (fun e w' => match e with | .returned v => wpList P ops Q rest (a.put dst v) w' | .panicked ch => Q (.panic ch) a w' | .outgrown => LetsOut Q)) : wpList P ops Q (Oper.mk dst (.call ⟨.value (.func f), xl.toArray, ts⟩) ty pos after none :: rest) a w :=
  wpList_plain rfl fun K hK => r_enter hx (hc.mono fun e w' h => by cases e <;> first | exact hK _ _ h | exact h)
theorem p_enter {f : FuncId} [e : Enters P f] {xl : List Operand} {al : List Value} {ts : Array TypeId} {v : Value} (hx : xl.map a.eval = al)
    (hc : ∀ w1, Ext w w1 → Calls P f al.toArray w1 (fun e w' => e = .returned v ∧ Ext w1 w')) (hr : ParSteps P ops Q w rest ss (fs ++ [fun _ => True]) (a.put dst v)) : ParSteps P ops Q w (Oper.mk dst (.call ⟨.value (.func f), xl.toArray, ts⟩) ty pos after none :: rest) (Spec.det v :: ss) fs a :=
  par_val rfl (fun w1 hw1 K hK => r_enter hx ((hc w1 hw1).mono fun e w' h => by obtain ⟨rfl, h2⟩ := h; exact hK _ h2)) hr
theorem p_and {c x : Operand} {b q : Bool} (hc : a.eval c = .bool b) (hx : a.eval x = G b (.bool q)) (hr : ParSteps P ops Q w rest ss (fs ++ [fun _ => True]) (a.put dst (.bool (b && q)))) : ParSteps P ops Q w (Oper.mk dst (.pick c x (.const (.bool false))) ty pos after none :: rest) (Spec.det (.bool (b && q)) :: ss) fs a :=
  par_val rfl (fun w1 hw1 K hK => wp_and rfl hc hx (hK _ (Ext.refl _))) hr
theorem p_or {c y : Operand} {b q : Bool} (hc : a.eval c = .bool b) (hy : a.eval y = G (!b) (.bool q)) (hr : ParSteps P ops Q w rest ss (fs ++ [fun _ => True]) (a.put dst (.bool (b || q)))) : ParSteps P ops Q w (Oper.mk dst (.pick c (.const (.bool true)) y) ty pos after none :: rest) (Spec.det (.bool (b || q)) :: ss) fs a :=
  par_val rfl (fun w1 hw1 K hK => wp_or rfl hc hy (hK _ (Ext.refl _))) hr
end
end Go.Proofs.YtdopillligfdiaaDoor
