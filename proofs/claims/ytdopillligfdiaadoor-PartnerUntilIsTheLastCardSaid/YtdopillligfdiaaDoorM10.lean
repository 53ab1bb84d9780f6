/- Operations one after the other, on frames of data. -/
import Derived.Test.YtdopillligfdiaaDoorMC
namespace Go.Proofs.YtdopillligfdiaaDoor
set_option linter.unusedSimpArgs false
set_option linter.unusedVariables false
open Go.RowKit

def strip : D → D
  | .gd _ d => d
  | d => d
/-- The spine of a list, reckoned before what follows. -/
def forceL {α : Type} : List α → (List α → Prop) → Prop
  | [], K => K []
  | x :: l, K => forceL l fun l => K (x :: l)
theorem forceL_eq {α : Type} : ∀ (l : List α) (K : List α → Prop), forceL l K = K l
  | [], _ => rfl
  | x :: l, K => by rw [forceL, forceL_eq l]
/-- The head of a datum, reckoned before what follows. -/
def force1 (d : D) (K : D → Prop) : Prop :=
  match d with
  | .any => K .any
  | .int k n => K (.int k n)
  | .bool b => K (.bool b)
  | .str s => K (.str s)
  | .pv v => K (.pv v)
  | .nil => K .nil
  | .sl m sz rows => K (.sl m sz rows)
  | .ptr cs => K (.ptr cs)
  | .obj cs => K (.obj cs)
  | .ref t o => K (.ref t o)
  | .gref c t o => K (.gref c t o)
  | .al t => K (.al t)
  | .fn f cs => K (.fn f cs)
  | .gd c d => K (.gd c d)
  | .agg cs => K (.agg cs)
  | .tup ds => K (.tup ds)
  | .mp kd es => K (.mp kd es)
theorem force1_eq (d : D) (K : D → Prop) : force1 d K = K d := by cases d <;> rfl
def forceH : List D → (List D → Prop) → Prop
  | [], K => K []
  | x :: l, K => force1 x fun x => forceH l fun l => K (x :: l)
theorem forceH_eq : ∀ (l : List D) (K : List D → Prop), forceH l K = K l
  | [], _ => rfl
  | x :: l, K => by rw [forceH, force1_eq, forceH_eq l]
def force (d : D) (K : D → Prop) : Prop :=
  match d with
  | .ptr cs => forceH cs fun cs => K (.ptr cs)
  | .obj cs => forceH cs fun cs => K (.obj cs)
  | .fn f cs => forceH cs fun cs => K (.fn f cs)
  | .gd c (.bool b) => K (.gd c (.bool b))
  | .gd c (.int k n) => K (.gd c (.int k n))
  | .gd c (.agg cs) => forceH cs fun cs => K (.gd c (.agg cs))
  | .gd c (.ptr cs) => forceH cs fun cs => K (.gd c (.ptr cs))
  | .gd c d => K (.gd c d)
  | .agg cs => forceH cs fun cs => K (.agg cs)
  | .tup ds => forceH ds fun ds => K (.tup ds)
  | d => force1 d K
theorem force_eq (d : D) (K : D → Prop) : force d K = K d := by
  unfold force
  split <;> first | rfl | simp only [forceH_eq, force1_eq]
/-- The value goes into its slot. -/
def putD (fr : List D) (dst : Option Nat) (d : D) (K : List D → Prop) : Prop :=
  match dst with
  | none => K fr
  | some t => match fr[t]? with
    | some d0 => match d0.owns with
      | false => force d fun d => forceL (fr.set t d) K
      | true => match d0.isObj with
        | false => force d fun d => forceL ((fr.map (unal t .any)).set t d) K
        | true => False
    | none => False
/-- The elements of what is read stay from now on. -/
def down1 (fr : List D) : Operand → List D
  | .tmp t => match fr[t]? with
    | some (.al u) => match fr[u]? with
      | some (.sl 2 sz rows) => fr.set u (.sl 1 sz rows)
      | _ => fr
    | some (.sl 2 sz rows) => fr.set t (.sl 1 sz rows)
    | _ => fr
  | _ => fr
/-- What becomes a part of something is frozen. -/
def frz1 (fr : List D) : Operand → List D
  | .tmp t => match fr[t]? with
    | some (.al u) => match fr[u]? with
      | some (.sl (_ + 1) sz rows) => (fr.map (unal u (.sl 0 sz rows))).set u (.sl 0 sz rows)
      | _ => fr
    | some (.sl (_ + 1) sz rows) => (fr.map (unal t (.sl 0 sz rows))).set t (.sl 0 sz rows)
    | _ => fr
  | _ => fr
def prep (o : Op) (fr : List D) : List D :=
  match o with
  | .indexAddr _ x _ => down1 fr x
  | .call c => match c.callee with
    | .value _ => c.args.toList.foldl down1 fr
    | _ => fr
  | .box _ x => frz1 fr x
  | .slice _ x _ _ _ => frz1 fr x
  | .build _ parts => parts.toList.foldl (fun fr x => frz1 fr x.2) fr
  | .buildSlice _ _ parts => parts.toList.foldl (fun fr x => frz1 fr x.2) fr
  | _ => fr
def needsPrep : Op → Bool
  | .indexAddr _ _ _ | .box _ _ | .slice _ _ _ _ _ | .build _ _ | .buildSlice _ _ _ => true
  | .call _ => true
  | _ => false
def pureD (P : Program) (T : Nat → Option TI) (Z : Nat → Option (List Value)) (o : Oper) (fr : List D) (K : List D → Prop) : Prop :=
  opD P T Z (evalD fr) o.op fun s d => andO s (putD fr o.dst d K)
def pickR (dc : D) (x y : Operand) (ρ : Operand → D) : Option (Option Prop × Bool) :=
  match dc with
  | .bool p => match y with
    | .const (.bool false) => match ρ x with
      | .gd p' (.bool q) => some (some (p = true → p' = true), p && q)
      | .bool q => some (none, p && q)
      | _ => none
    | _ => match x with
      | .const (.bool true) => match ρ y with
        | .gd p' (.bool q) => some (some (p = false → p' = true), p || q)
        | .bool q => some (none, p || q)
        | _ => none
      | _ => none
  | _ => none
def pickD (dc : D) (x y : Operand) (ρ : Operand → D) (K : Option Prop → D → Prop) : Prop :=
  match pickR dc x y ρ with
  | some (s, r) => K s (.bool r)
  | none => False
theorem pickD_inv {dc : D} {x y : Operand} {ρ : Operand → D} {K : Option Prop → D → Prop} (h : pickD dc x y ρ K) : ∃ s r, pickR dc x y ρ = some (s, r) ∧ K s (.bool r) := by
  unfold pickD at h
  split at h
  · exact ⟨_, _, by assumption, h⟩
  · exact h.elim
/-- The slot that an operand stands for. -/
def rootOf (fr : List D) : Operand → Option Nat
  | .tmp t => match fr[t]? with
    | some (.al u) => some u
    | some (.sl (_ + 1) _ _) => some t
    | some (.mp _ _) => some t
    | _ => none
  | _ => none
def rowsOf (sz : Nat) : D → Option (Nat × List (List D))
  | .nil => some (sz, [])
  | .sl _ s rows => some (s, rows)
  | _ => none
def appendD (T : Nat → Option TI) (c : Call) (dst : Option Nat) (fr : List D) (K : List D → Prop) : Prop :=
  match c.args.toList, c.argTypes.toList with
  | [s, x], [t, t'] => match T t with
    | some (.sl _ sz bytes _) => match Nat.beq t t' && Nat.ble bytes 1000 with
      | true => match rowsOf sz (evalD fr x) with
        | some (s2, rows2) => match rootOf fr s with
          | some u => match fr[u]? with
            | some (.sl 1 s1 rows) => SideD (s1 = sz ∧ s2 = sz ∧ rows.length + rows2.length ≤ 1000000000) (forceL ((fr.map (unal u .any)).set u .any) fun fr => putD fr dst (.sl 1 sz (rows ++ rows2)) K)
            | some (.sl 2 s1 rows) => SideD (s1 = sz ∧ s2 = sz ∧ rows.length + rows2.length ≤ 1000000000) (forceL ((fr.map (unal u .any)).set u .any) fun fr => putD fr dst (.sl 2 sz (rows ++ rows2)) K)
            | _ => False
          | none => match evalD fr s with
            | .nil => SideD (s2 = sz ∧ rows2.length ≤ 1000000000) (putD fr dst (.sl 2 sz rows2) K)
            | _ => False
        | none => False
      | false => False
    | _ => False
  | _, _ => False
def takeD (fr : List D) (u : Nat) (dst : Option Nat) (K : List D → Prop) : Prop :=
  match fr[u]? with
  | some (.sl (m + 1) sz rows) => forceL ((fr.map (unal u .any)).set u .any) fun fr => putD fr dst (.sl (m + 1) sz rows) K
  | some (.mp kd es) => forceL ((fr.map (unal u .any)).set u .any) fun fr => putD fr dst (.mp kd es) K
  | _ => False
/-- A map is written. -/
def updD (T : Nat → Option TI) (ty : Nat) (m k v : Operand) (dst : Option Nat) (fr : List D) (K : List D → Prop) : Prop :=
  match dst with
  | some _ => False
  | none => match T ty, rootOf fr m with
    | some (.mp _ _ kd _), some u => match fr[u]? with
      | some (.mp kd' es) => match (evalD fr k).keyV, (evalD fr v).keyV with
        | some kv, some vv => match sameKD kd kd' && fitK kd kv with
          | true => forceL (fr.set u (.mp kd (putV kv vv es))) K
          | false => False
        | _, _ => False
      | _ => False
    | _, _ => False
def delD (T : Nat → Option TI) (c : Call) (dst : Option Nat) (fr : List D) (K : List D → Prop) : Prop :=
  match dst, c.args.toList, c.argTypes.toList with
  | none, [m, k], [ty, kt] => match T ty, rootOf fr m with
    | some (.mp kt' _ kd _), some u => match Nat.beq kt kt' with
      | true => match fr[u]? with
        | some (.mp kd' es) => match (evalD fr k).keyV with
          | some kv => match sameKD kd kd' && fitK kd kv with
            | true => forceL (fr.set u (.mp kd (delV kv es))) K
            | false => False
          | none => False
        | _ => False
      | false => False
    | _, _ => False
  | _, _, _ => False
/-- What is read out of an object. -/
def loadD (T : Nat → Option TI) (ty u off : Nat) (dst : Option Nat) (fr : List D) (K : List D → Prop) : Prop :=
  match fr[u]? with
  | some (.obj cs) => match T ty with
    | some (.st n _ _) => match Nat.ble (off + n) cs.length && ((cs.drop off).take n).all D.one with
      | true => putD fr dst (.agg ((cs.drop off).take n)) K
      | false => False
    | some _ => match cs[off]? with
      | some d => match d.one with
        | true => putD fr dst d K
        | false => False
      | none => False
    | none => False
  | _ => False
def putObj (fr : List D) (u : Nat) (cs : List D) (K : List D → Prop) : Prop := forceH cs fun cs => forceL (fr.set u (.obj cs)) K
def storeD (T : Nat → Option TI) (ty : Nat) (x v : Operand) (dst : Option Nat) (fr : List D) (K : List D → Prop) : Prop :=
  match dst with
  | some _ => False
  | none => match objAt fr x with
    | some (u, off) => match fr[u]? with
      | some (.obj cs) => match T ty with
        | some ti => match (evalD fr v).cellsOf with
          | some vs => match Nat.beq vs.length ti.cells && Nat.ble (off + vs.length) cs.length with
            | true => putObj fr u (cs.take off ++ vs ++ cs.drop (off + vs.length)) K
            | false => False
          | none => False
        | none => False
      | _ => False
    | none => False
/-- An object that is written once. -/
def freezeD (fr : List D) (u : Nat) (K : List D → Prop) : Prop :=
  match fr[u]? with
  | some (.obj cs) => match cs.all D.one && (fr.set u .any).all (safeB u) with
    | true => forceL (fr.set u (.ptr cs)) K
    | false => False
  | _ => False
def onceD (M : Nat → Bool) (x : Operand) (fr0 : List D) (K : List D → Prop) (fr : List D) : Prop :=
  match objAt fr0 x with
  | some (u, _) => match M (2000000 + u) with
    | true => freezeD fr u K
    | false => K fr
  | none => K fr
/-- A new variable in memory. -/
def newObj (fr : List D) (t : Nat) (cs : List D) (K : List D → Prop) : Prop :=
  match fr[t]? with
  | some d0 => match d0.owns || Nat.beq t 0 with
    | false => putObj fr t cs K
    | true => False
  | none => False
def allocD (Z : Nat → Option (List Value)) (M : Nat → Bool) (ty : Nat) (dst : Option Nat) (fr : List D) (K : List D → Prop) : Prop :=
  match dst with
  | some t => match M t with
    | true => match Z ty with
      | some zc => match zc.all Value.oneCell' with
        | true => newObj fr t (zeroD zc) K
        | false => False
      | none => False
    | false => False
  | none => False
def boxD (ty : Nat) (v : Operand) (t : Nat) (fr : List D) (K : List D → Prop) : Prop :=
  match (evalD fr v).cellsOf with
  | some cs => newObj fr t cs K
  | none => False
/-- What a call gives that is handed what a slot owns. -/
structure CallO (F : D → Option D → Prop) : Prop where
  h : ∃ d out, F d out
theorem CallO.go {F : D → Option D → Prop} {d : D} {out : Option D} (h : F d out) : CallO F := ⟨d, out, h⟩
def handD (P : Program) (f u : Nat) (xs : List Operand) (dst : Option Nat) (fr : List D) (K : List D → Prop) : Prop :=
  match fr[u]? with
  | some (.sl (m + 1) sz rows) => CallO fun d out => SideD (GivesO P f (.sl (m + 1) sz rows) (xs.map (evalD fr)) d out) (match out with
    | none => forceL ((fr.map (unal u .any)).set u .any) fun fr => putD fr dst d K
    | some d' => forceL ((fr.map (unal u .any)).set u d') fun fr => putD fr dst d K)
  | _ => False
/-- The object of a slot is handed on. -/
def handO (P : Program) (f u : Nat) (xs : List Operand) (dst : Option Nat) (fr : List D) (K : List D → Prop) : Prop :=
  match fr[u]? with
  | some (.obj cs) => match cs.all D.calm1 with
    | true => CallO fun d out => SideD (GivesO P f (.obj cs) (xs.map (evalD fr)) d out) (match out with
      | some (.obj cs') => putObj fr u cs' fun fr => putD fr dst d K
      | _ => False)
    | false => False
  | _ => False
/-- What a call may look at while it runs, of what the caller owns. -/
def lend1 (fr : List D) : D → D
  | .ref u off => match fr[u]? with
    | some (.obj cs) => match cs.all D.one with
      | true => .ptr (cs.drop off)
      | false => .any
    | _ => .any
  | d => match d.one with
    | true => d
    | false => .any
def lendD (fr : List D) : D → D
  | .fn f caps => .fn f (caps.map (lend1 fr))
  | .sl _ sz rows => .sl 0 sz rows
  | .obj cs => match cs.all D.one with
    | true => .ptr cs
    | false => .any
  | .ref u off => lend1 fr (.ref u off)
  | d => match d.passes with
    | true => d
    | false => .any
def lends : D → Bool
  | .ref _ _ => true
  | .fn _ caps => caps.any fun d => match d with
    | .ref _ _ => true
    | _ => false
  | _ => false
/-- A call that hands back no memory. -/
structure GivesL (P : Program) (f : Nat) (args : List D) (d : D) : Prop where
  flat : d.flat = true
  h : Gives P f args d
def lendE (P : Program) (f : Nat) (xs : List Operand) (dst : Option Nat) (fr : List D) (K : List D → Prop) : Prop :=
  CallE fun d => SideD (GivesL P f (xs.map fun x => lendD fr (evalD fr x)) d) (putD fr dst d K)
/-- One operation. -/
def stepD (P : Program) (T : Nat → Option TI) (Z : Nat → Option (List Value)) (M : Nat → Bool) (o : Oper) (fr : List D) (K : List D → Prop) : Prop :=
  match o.op with
  | .move (.tmp u) => match fr[u]? with
    | some (.sl (_ + 1) _ _) => match o.dst with
      | some t => match Nat.beq t u with
        | false => putD fr (some t) (.al u) K
        | true => False
      | none => K fr
    | some (.mp _ _) => match o.dst with
      | some t => match Nat.beq t u with
        | false => putD fr (some t) (.al u) K
        | true => False
      | none => K fr
    | some (.al u') => match o.dst with
      | some t => match Nat.beq t u' with
        | false => putD fr (some t) (.al u') K
        | true => False
      | none => K fr
    | some (.obj _) => putD fr o.dst (.ref u 0) K
    | _ => pureD P T Z o fr K
  | .assign (.tmp u) => match fr[u]? with
    | some (.sl (_ + 1) _ _) => takeD fr u o.dst K
    | some (.mp _ _) => takeD fr u o.dst K
    | some (.al u') => takeD fr u' o.dst K
    | some (.obj _) => putD fr o.dst (.ref u 0) K
    | _ => pureD P T Z o fr K
  | .pick c x y => pickD (evalD fr c) x y (evalD fr) fun s d => andO s (putD fr o.dst d K)
  | .call c => match c.callee with
    | .builtin .append => appendD T c o.dst fr K
    | .builtin .delete => delD T c o.dst fr K
    | .builtin _ => pureD P T Z o fr K
    | .value (.func f) => match M (1000000 + f) with
      | true => match c.args.toList with
        | x :: xs => match rootOf fr x with
          | some u => forceL (xs.foldl down1 fr) fun fr => match rootOf fr x with
            | some u' => match Nat.beq u' u with
              | true => handD P f u xs o.dst fr K
              | false => False
            | none => False
          | none => match objAt fr x with
            | some (u, 0) => forceL (xs.foldl down1 fr) fun fr => match objAt fr x with
              | some (u', 0) => handO P f u' xs o.dst fr K
              | _ => False
            | _ => forceL (prep (.call c) fr) fun fr => pureD P T Z o fr K
        | [] => pureD P T Z o fr K
      | false => match c.args.toList.any fun x => lends (evalD fr x) with
        | true => lendE P f c.args.toList o.dst fr K
        | false => forceL (prep (.call c) fr) fun fr => pureD P T Z o fr K
    | _ => forceL (prep (.call c) fr) fun fr => pureD P T Z o fr K
  | .nilCheck (.tmp u) => match fr[u]? with
    | some (.obj _) => putD fr o.dst (.ref u 0) K
    | _ => pureD P T Z o fr K
  | .fieldAddr ty (.tmp u) i => match fr[u]? with
    | some (.obj _) => match T ty with
      | some (.st _ fl _) => match fl[i]? with
        | some (off, _ + 1, _) => putD fr o.dst (.ref u off) K
        | _ => False
      | _ => False
    | _ => pureD P T Z o fr K
  | .load ty x => match objAt fr x with
    | some (u, off) => loadD T ty u off o.dst fr K
    | none => pureD P T Z o fr K
  | .store ty x v => forceL (frz1 fr v) fun fr => storeD T ty x v o.dst fr (onceD M x fr K)
  | .mapUpdate ty m k v => updD T ty m k v o.dst fr K
  | .alloc ty => allocD Z M ty o.dst fr K
  | .box ty v => match o.dst with
    | some t => match M t with
      | true => forceL (frz1 fr v) fun fr => boxD ty v t fr K
      | false => forceL (prep (.box ty v) fr) fun fr => pureD P T Z o fr K
    | none => False
  | op => match needsPrep op with
    | true => forceL (prep op fr) fun fr => pureD P T Z o fr K
    | false => pureD P T Z o fr K
/-- What a guard says. -/
def condOf (all : List Oper) (fr : List D) (j : Nat) (want : Bool) : Option Bool :=
  match all[j]? with
  | some oj => match oj.dst with
    | some t => match fr[t]? with
      | some (.bool b) => match want with
        | true => some b
        | false => some (!b)
      | some (.gd c (.bool b)) => match want with
        | true => some (c && b)
        | false => some (c && !b)
      | _ => none
    | none => none
  | none => none
/-- What the operands of an operation under a guard stand under themselves. -/
def gds (ρ : Operand → D) : List Operand → Option Prop
  | [] => none
  | x :: xs => match ρ x with
    | .gd c _ => match gds ρ xs with
      | none => some (c = true)
      | some p => some (c = true ∧ p)
    | _ => gds ρ xs
/-- Both, under a condition. -/
def under (c : Bool) : Option Prop → Option Prop → Option Prop
  | none, none => none
  | some g, none => some (c = true → g)
  | none, some s => some (c = true → s)
  | some g, some s => some (c = true → g ∧ s)
theorem under_holds {c : Bool} {g s : Option Prop} (h : holds (under c g s)) (hc : c = true) : holds g ∧ holds s := by
  cases g with
  | none => cases s with
    | none => exact ⟨trivial, trivial⟩
    | some s => exact ⟨trivial, h hc⟩
  | some g => cases s with
    | none => exact ⟨h hc, trivial⟩
    | some s => exact h hc
/-- What is read out of an object under a guard. -/
def loadG (T : Nat → Option TI) (ty u off : Nat) (c : Bool) (dst : Option Nat) (fr : List D) (K : List D → Prop) : Prop :=
  match fr[u]? with
  | some (.obj cs) => match T ty with
    | some (.st n _ _) => match Nat.ble (off + n) cs.length && ((cs.drop off).take n).all D.one with
      | true => putD fr dst (.gd c (.agg ((cs.drop off).take n))) K
      | false => False
    | some _ => match cs[off]? with
      | some d => match d.one with
        | true => putD fr dst (.gd c d) K
        | false => False
      | none => False
    | none => False
  | _ => False
/-- One operation that is carried out if its guard says so. -/
def gstepD (P : Program) (T : Nat → Option TI) (Z : Nat → Option (List Value)) (o : Oper) (c : Bool) (fr : List D) (K : List D → Prop) : Prop :=
  match o.op with
  | .pick cc x y => pickD (strip (evalD fr cc)) x y (evalD fr) fun s d => andO (under c (gds (evalD fr) [cc]) s) (putD fr o.dst (.gd c d) K)
  | .fieldAddr ty (.tmp u) i => match fr[u]? with
    | some (.obj _) => match T ty with
      | some (.st _ fl _) => match fl[i]? with
        | some (off, _ + 1, _) => putD fr o.dst (.gref c u off) K
        | _ => False
      | _ => False
    | _ => opD P T Z (fun x => strip (evalD fr x)) (.fieldAddr ty (.tmp u) i) fun s d => andO (under c (gds (evalD fr) [.tmp u]) s) (match d.passes with
      | true => putD fr o.dst (.gd c d) K
      | false => False)
  | .load ty (.tmp x) => match fr[x]? with
    | some (.gref c' u off) => SideD (c = true → c' = true) (loadG T ty u off c o.dst fr K)
    | some (.obj _) => loadG T ty x 0 c o.dst fr K
    | _ => opD P T Z (fun x => strip (evalD fr x)) (.load ty (.tmp x)) fun s d => andO (under c (gds (evalD fr) [.tmp x]) s) (match d.passes with
      | true => putD fr o.dst (.gd c d) K
      | false => False)
  | op => opD P T Z (fun x => strip (evalD fr x)) op fun s d => andO (under c (gds (evalD fr) op.operands.toList) s) (match d.passes with
    | true => putD fr o.dst (.gd c d) K
    | false => False)
/-- A variable that is written once, where it is made. -/
def pairD (T : Nat → Option TI) (Z : Nat → Option (List Value)) (o o2 : Oper) (ty : Nat) (fr : List D) (K : List D → Prop) : Prop :=
  match o.dst, o2.op, o2.dst, o2.guard with
  | some t, .store ty2 (.tmp t2) v, none, none => match Nat.beq t t2 && Nat.beq ty ty2 with
    | true => match T ty, Z ty with
      | some ti, some zc => forceL (frz1 fr v) fun fr => match v with
        | .tmp tv => match Nat.beq tv t with
          | false => match (evalD fr (.tmp tv)).cellsOf with
            | some vs => match Nat.beq vs.length ti.cells && Nat.beq zc.length ti.cells with
              | true => putD fr (some t) (.ptr vs) K
              | false => False
            | none => False
          | true => False
        | .const c => match (evalD fr (.const c)).cellsOf with
          | some vs => match Nat.beq vs.length ti.cells && Nat.beq zc.length ti.cells with
            | true => putD fr (some t) (.ptr vs) K
            | false => False
          | none => False
        | _ => False
      | _, _ => False
    | false => False
  | _, _, _, _ => False
def isFrzAlloc (M : Nat → Bool) (o : Oper) : Option Nat :=
  match o.op with
  | .alloc ty => match o.dst with
    | some t => match M t with
      | true => none
      | false => some ty
    | none => none
  | _ => none
def vcOps (P : Program) (T : Nat → Option TI) (Z : Nat → Option (List Value)) (M : Nat → Bool) (all : List Oper) : List Oper → List D → (List D → Prop) → Prop
  | [], fr, K => K fr
  | [o], fr, K => match o.guard with
    | none => stepD P T Z M o fr K
    | some (j, want) => match condOf all fr j want with
      | some c => gstepD P T Z o c fr K
      | none => False
  | o :: o2 :: r, fr, K => match o.guard with
    | none => match isFrzAlloc M o with
      | some ty => pairD T Z o o2 ty fr fun fr' => vcOps P T Z M all r fr' K
      | none => stepD P T Z M o fr fun fr' => vcOps P T Z M all (o2 :: r) fr' K
    | some (j, want) => match condOf all fr j want with
      | some c => gstepD P T Z o c fr fun fr' => vcOps P T Z M all (o2 :: r) fr' K
      | none => False

section
variable {P : Program} {T : Nat → Option TI} {Z : Nat → Option (List Value)} {M : Nat → Bool}
theorem FR.evalRef {S : Sig} {w : World} {a : Act} {fr : List D} (h : FR S w a fr) (x : Operand) : RefOk fr (evalD fr x) := by
  cases x with
  | tmp t =>
    unfold evalD
    simp only
    cases hd : fr[t]? with
    | none => exact fun t ht => by cases ht
    | some d =>
      obtain ⟨v, hv, hr⟩ := h.at hd
      cases d with
      | al u =>
        obtain ⟨h1, d', h2, h3, _⟩ := hr
        simp only [h2, Option.getD_some]
        exact ((h.slot u d' v h2 h1).rep (fun u' hu => by subst hu; simp [D.owns] at h3)).2
      | _ => exact hr.2
  | const v =>
    unfold evalD
    cases v with
    | agg cs => exact fun t ht => by cases ht
    | _ => exact fun t ht => ((ofVal_rep (lim := fun _ => none) (w := w) _ (by intro cs hc; cases hc)).men ht).elim
  | global g => exact fun t ht => by cases ht
  | func f => exact fun t ht => by cases ht with | fn h => simp at h
/-- The place of a slot, or none. -/
def dstPlace : Option Nat → Place
  | some t => .slot t
  | none => ⟨1, []⟩
theorem putD_sound {S : Sig} {w : World} {a : Act} {fr : List D} {dst : Option Nat} {v : Value} {d : D} {K : List D → Prop} (h : FR S w a fr) (hr : Rep S w (dstPlace dst) v d) (hf : RefOk fr d) (hp : putD fr dst d K) : ∃ fr', K fr' ∧ FR S w (a.put dst v) fr' := by
  cases dst with
  | none => exact ⟨fr, hp, h⟩
  | some t =>
    simp only [putD] at hp
    split at hp
    · rename_i d0 h0
      split at hp
      · rename_i ho
        rw [force_eq, forceL_eq] at hp
        exact ⟨_, hp, h.put (PT.refl h.wf) h0 ho hr hf⟩
      · split at hp
        · rename_i hn
          rw [force_eq, forceL_eq] at hp
          exact ⟨_, hp, h.putOwn h0 hn hr hf⟩
        · exact hp.elim
    · exact hp.elim
theorem down1_sound {S : Sig} {w : World} {a : Act} {fr : List D} (h : FR S w a fr) (x : Operand) : ∃ S', Trans S w S' w ∧ FR S' w a (down1 fr x) := by
  unfold down1
  split
  · split
    · split
      · rename_i hu; exact h.down hu
      · exact ⟨S, Trans.refl S w, h⟩
    · rename_i ht; exact h.down ht
    · exact ⟨S, Trans.refl S w, h⟩
  · exact ⟨S, Trans.refl S w, h⟩
theorem frz1_sound {S : Sig} {w : World} {a : Act} {fr : List D} (h : FR S w a fr) (x : Operand) : ∃ S', Trans S w S' w ∧ FR S' w a (frz1 fr x) := by
  unfold frz1
  split
  · split
    · split
      · rename_i hu; exact h.freeze hu
      · exact ⟨S, Trans.refl S w, h⟩
    · rename_i ht; exact h.freeze ht
    · exact ⟨S, Trans.refl S w, h⟩
  · exact ⟨S, Trans.refl S w, h⟩
theorem fold_sound {α : Type} {w : World} {a : Act} {f : List D → α → List D} (hf : ∀ S fr x, FR S w a fr → ∃ S', Trans S w S' w ∧ FR S' w a (f fr x)) : ∀ (l : List α) (S : Sig) (fr : List D), FR S w a fr → ∃ S', Trans S w S' w ∧ FR S' w a (l.foldl f fr)
  | [], S, fr, h => ⟨S, Trans.refl S w, h⟩
  | x :: l, S, fr, h => by
    obtain ⟨S1, t1, h1⟩ := hf S fr x h
    obtain ⟨S2, t2, h2⟩ := fold_sound hf l S1 _ h1
    exact ⟨S2, t1.trans t2, h2⟩
theorem prep_sound {S : Sig} {w : World} {a : Act} {fr : List D} (h : FR S w a fr) (o : Op) : ∃ S', Trans S w S' w ∧ FR S' w a (prep o fr) := by
  unfold prep
  split
  · exact down1_sound h _
  · split
    · exact fold_sound (fun S fr x h => down1_sound h x) _ S fr h
    · exact ⟨S, Trans.refl S w, h⟩
  · exact frz1_sound h _
  · exact frz1_sound h _
  · exact fold_sound (fun S fr x h => frz1_sound h _) _ S fr h
  · exact fold_sound (fun S fr x h => frz1_sound h _) _ S fr h
  · exact ⟨S, Trans.refl S w, h⟩
/-- From the data to the machine: one operation. -/
def StepOk (P : Program) (S : Sig) (w : World) (a : Act) (o : Oper) (K : List D → Prop) : Prop :=
  ∀ (K' : Act → World → Prop) (Q : Exit → Act → World → Prop), (∀ fr' S' w' a', K fr' → Trans S w S' w' → FR S' w' a' fr' → K' a' w') → o.wp P a w K' Q
theorem StepOk.ghost {S S1 : Sig} {w : World} {a : Act} {o : Oper} {K : List D → Prop} (ht : Trans S w S1 w) (h : StepOk P S1 w a o K) : StepOk P S w a o K :=
  fun K' Q hK => h K' Q fun fr' S' w' a' k t f => hK fr' S' w' a' k (ht.trans t) f
theorem StepOk.mono {S : Sig} {w : World} {a : Act} {o : Oper} {K K2 : List D → Prop} (h : StepOk P S w a o K) (hk : ∀ {fr' S' w' a'}, K fr' → FR S' w' a' fr' → ∃ fr'' S'', K2 fr'' ∧ Trans S' w' S'' w' ∧ FR S'' w' a' fr'') : StepOk P S w a o K2 :=
  fun K' Q hK => h K' Q fun fr' S' w' a' k t f => by
    obtain ⟨fr'', S'', k2, t2, f2⟩ := hk k f
    exact hK fr'' S'' w' a' k2 (t.trans t2) f2
theorem pureD_sound (hT : TOk P T Z) {S : Sig} {w : World} {a : Act} {fr : List D} {o : Oper} {K : List D → Prop} (h : FR S w a fr) (hs : pureD P T Z o fr K) : StepOk P S w a o K := by
  intro K' Q hK
  obtain ⟨dst, op, ty, pos, after, guard⟩ := o
  obtain ⟨s, d, h12, h3⟩ := opD_sound (dst := dst) (ty := ty) (pos := pos) (after := after) (guard := guard) hT hs
  obtain ⟨h1, h2⟩ := andO_iff.1 h12
  refine h3 h1 S w a (dstPlace dst) h.wf (fun x _ => h.eval x) K' Q fun v S' w' hp hr hm => ?_
  have hrf : RefOk fr d := fun t ht => by
    obtain ⟨x, _, hx⟩ := hm t ht
    exact h.evalRef x t hx
  obtain ⟨fr', k1, k2⟩ := putD_sound (h.drop hp) hr hrf h2
  exact hK fr' S' w' _ k1 hp.trans k2
theorem pick_run {w : World} {a : Act} {c x y : Operand} {p : Bool} {K' : Act → World → Prop} {Q : Exit → Act → World → Prop} {dst : Option Tmp} {ty : TypeId} {pos : String} {after : Array Edge} {guard : Option (Nat × Bool)} (hc : a.eval c = .bool p) (hk : K' (a.put dst (if p then a.eval x else a.eval y)) w) : (Oper.mk dst (.pick c x y) ty pos after guard).wp P a w K' Q := by
  unfold Oper.wp
  rw [execOp_pick _ _ _ _ _ _ _ _ _ p hc]
  exact hk
/-- What a choice gives. -/
theorem pickR_sound {S : Sig} {w : World} {a : Act} {dc : D} {c x y : Operand} {ρ : Operand → D} {s : Option Prop} {r : Bool} (hc : ∃ q, Rep S w q (a.eval c) dc) (hrx : ∃ q, Rep S w q (a.eval x) (ρ x)) (hry : ∃ q, Rep S w q (a.eval y) (ρ y)) (h : pickR dc x y ρ = some (s, r)) (hs : holds s) : ∃ p, a.eval c = .bool p ∧ (if p then a.eval x else a.eval y) = .bool r := by
  have gdv : ∀ {z : Operand} {p' q : Bool}, (∃ q, Rep S w q (a.eval z) (ρ z)) → ρ z = .gd p' (.bool q) → p' = true → a.eval z = .bool q := fun {z p' q} hr hz hp => by
    obtain ⟨qq, hq⟩ := hr
    rw [hz] at hq
    have := (hq.gd_inv.1 hp)
    exact (Rep.fz (p := .dead) this).bool_inv
  have bv : ∀ {z : Operand} {q : Bool}, (∃ q, Rep S w q (a.eval z) (ρ z)) → ρ z = .bool q → a.eval z = .bool q := fun {z q} hr hz => by
    obtain ⟨qq, hq⟩ := hr
    rw [hz] at hq
    exact hq.bool_inv
  obtain ⟨q, hq⟩ := hc
  unfold pickR at h
  split at h
  · rename_i p
    refine ⟨p, hq.bool_inv, ?_⟩
    split at h
    · split at h
      · rename_i hx
        cases h
        cases p with
        | true => simp only [if_true, Bool.true_and]; exact gdv hrx hx (hs rfl)
        | false => rfl
      · rename_i hx
        cases h
        cases p with
        | true => simp only [if_true, Bool.true_and]; exact bv hrx hx
        | false => rfl
      · cases h
    · split at h
      · split at h
        · rename_i hy
          cases h
          cases p with
          | false => simp only [Bool.false_or]; exact gdv hry hy (hs rfl)
          | true => rfl
        · rename_i hy
          cases h
          cases p with
          | false => simp only [Bool.false_or]; exact bv hry hy
          | true => rfl
        · cases h
      · cases h
  · cases h
theorem no_men_bool {b : Bool} {fr : List D} : RefOk fr (.bool b) := fun t ht => by cases ht
theorem take_sound {S : Sig} {w : World} {a : Act} {fr : List D} {u0 u : Nat} {dst : Option Nat} {ty : TypeId} {pos : String} {after : Array Edge} {guard : Option (Nat × Bool)} {K : List D → Prop} (h : FR S w a fr) (hu : ∀ v, a.tmps[u]? = some v → a.eval (.tmp u0) = v) (hs : takeD fr u dst K) : StepOk P S w a (Oper.mk dst (.assign (.tmp u0)) ty pos after guard) K := by
  intro K' Q hK
  unfold takeD at hs
  split at hs
  · rename_i m sz rows hd
    rw [forceL_eq] at hs
    obtain ⟨S', v, t1, t2, t3, t4⟩ := h.take (dstPlace dst) hd
    obtain ⟨fr', k1, k2⟩ := putD_sound t3 t4 (fun t ht => (no_men_sl ht).elim) hs
    refine r_assign (v := v) (hu v t2) (hK fr' S' w _ k1 t1 k2)
  · rename_i kd es hd
    rw [forceL_eq] at hs
    obtain ⟨S', v, t1, t2, t3, t4⟩ := h.takeMp (dstPlace dst) hd
    obtain ⟨fr', k1, k2⟩ := putD_sound t3 t4 (fun t ht => by cases ht) hs
    refine r_assign (v := v) (hu v t2) (hK fr' S' w _ k1 t1 k2)
  · exact hs.elim
theorem rows_rep {S : Sig} {w : World} {q : Place} {v : Value} {sz s2 : Nat} {d : D} {rows : List (List D)} (h : Rep S w q v d) (hr : rowsOf sz d = some (s2, rows)) : ∃ m, Rep S w q v (.sl m s2 rows) := by
  unfold rowsOf at hr
  split at hr
  · cases hr
    rw [h.nil_inv]
    exact ⟨0, .fz (.slNil 0 sz)⟩
  · cases hr
    exact ⟨_, h⟩
  · cases hr
theorem root_eval {S : Sig} {w : World} {a : Act} {fr : List D} (h : FR S w a fr) {s : Operand} {u : Nat} (hr : rootOf fr s = some u) : a.tmps[u]? = some (a.eval s) := by
  unfold rootOf at hr
  split at hr
  · rename_i t
    have ev : ∀ v, a.tmps[t]? = some v → a.eval (.tmp t) = v := fun v hv => by simp [Act.eval, Array.getD_eq_getD_getElem?, hv]
    split at hr
    · rename_i hd
      cases hr
      obtain ⟨v, hv, hs⟩ := h.at hd
      rw [ev v hv]
      exact hs.1
    · rename_i hd
      cases hr
      obtain ⟨v, hv, hs⟩ := h.at hd
      rw [ev v hv]
      exact hv
    · rename_i hd
      cases hr
      obtain ⟨v, hv, hs⟩ := h.at hd
      rw [ev v hv]
      exact hv
    · cases hr
  · cases hr
theorem upd_sound (hT : TOk P T Z) {S : Sig} {w : World} {a : Act} {fr : List D} {ty0 : Nat} {m k v : Operand} {dst : Option Nat} {ty : TypeId} {pos : String} {after : Array Edge} {guard : Option (Nat × Bool)} {K : List D → Prop} (h : FR S w a fr) (hs : updD T ty0 m k v dst fr K) : StepOk P S w a (Oper.mk dst (.mapUpdate ty0 m k v) ty pos after guard) K := by
  intro K' Q hK
  unfold updD at hs
  split at hs
  · exact hs.elim
  · split at hs
    · rename_i kt et kd z u ht hu
      haveI := (hT.ty _ _ ht).1
      have hev := root_eval h hu
      split at hs
      · rename_i kd' es hd
        split at hs
        · rename_i kv vv hk hv
          split at hs
          · rename_i hb
            simp only [Bool.and_eq_true] at hb
            obtain rfl := sameKD_eq hb.1
            rw [forceL_eq] at hs
            obtain ⟨v0, hv0, hsl⟩ := h.at hd
            obtain ⟨b, clock, ents, rfl, hown, hh, he, hf⟩ := hsl.1.mp_inv
            have hm : a.eval m = .map (some b) := Option.some.inj (hev.symm.trans hv0)
            obtain ⟨q1, r1⟩ := h.eval k
            obtain ⟨q2, r2⟩ := h.eval v
            refine r_mapUpdate hm hh he hf (keyV_eq r1 hk) hb.2 (keyV_eq r2 hv) fun ents' clock' he' => ?_
            obtain ⟨t1, f1⟩ := h.setMap (clock' := clock') hd hv0 hown hh he' (putV_fit hb.2 hf)
            exact hK _ S _ a hs t1 f1
          · exact hs.elim
        · exact hs.elim
      · exact hs.elim
    · exact hs.elim
theorem del_sound (hT : TOk P T Z) {S : Sig} {w : World} {a : Act} {fr : List D} {c : Call} {dst : Option Nat} {ty : TypeId} {pos : String} {after : Array Edge} {guard : Option (Nat × Bool)} {K : List D → Prop} (h : FR S w a fr) (hc : c.callee = .builtin .delete) (hs : delD T c dst fr K) : StepOk P S w a (Oper.mk dst (.call c) ty pos after guard) K := by
  intro K' Q hK
  obtain ⟨callee, args, argTypes⟩ := c
  simp only at hc
  subst hc
  unfold delD at hs
  simp only at hs
  split at hs
  · rename_i m k ty0 kt0 h1 h2
    obtain rfl := arr2 h1
    obtain rfl := arr2 h2
    split at hs
    · rename_i kt et kd z u ht hu
      haveI := (hT.ty _ _ ht).1
      have hev := root_eval h hu
      split at hs
      · rename_i hkt
        obtain rfl := Nat.eq_of_beq_eq_true hkt
        split at hs
        · rename_i kd' es hd
          split at hs
          · rename_i kv hk
            split at hs
            · rename_i hb
              simp only [Bool.and_eq_true] at hb
              obtain rfl := sameKD_eq hb.1
              rw [forceL_eq] at hs
              obtain ⟨v0, hv0, hsl⟩ := h.at hd
              obtain ⟨b, clock, ents, rfl, hown, hh, he, hf⟩ := hsl.1.mp_inv
              have hm : a.eval m = .map (some b) := Option.some.inj (hev.symm.trans hv0)
              obtain ⟨q1, r1⟩ := h.eval k
              refine r_delete rfl hm hh he hf (keyV_eq r1 hk) hb.2 fun ents' clock' he' => ?_
              obtain ⟨t1, f1⟩ := h.setMap (clock' := clock') hd hv0 hown hh he' (delV_fit hf)
              exact hK _ S _ a hs t1 f1
            · exact hs.elim
          · exact hs.elim
        · exact hs.elim
      · exact hs.elim
    · exact hs.elim
  · exact hs.elim
theorem append_sound (hT : TOk P T Z) {S : Sig} {w : World} {a : Act} {fr : List D} {c : Call} {dst : Option Nat} {ty : TypeId} {pos : String} {after : Array Edge} {guard : Option (Nat × Bool)} {K : List D → Prop} (h : FR S w a fr) (hc : c.callee = .builtin .append) (hs : appendD T c dst fr K) : StepOk P S w a (Oper.mk dst (.call c) ty pos after guard) K := by
  intro K' Q hK
  obtain ⟨callee, args, argTypes⟩ := c
  simp only at hc
  subst hc
  unfold appendD at hs
  simp only at hs
  split at hs
  · rename_i s x t t' h1 h2
    obtain rfl := arr2 h1
    obtain rfl := arr2 h2
    split at hs
    · rename_i e sz bytes zc ht
      obtain ⟨i1, i2, i3, i4, i5⟩ := hT.ty _ _ ht
      haveI := i1; haveI := i4
      split at hs
      · rename_i hb
        simp only [Bool.and_eq_true] at hb
        obtain rfl : t = t' := Nat.eq_of_beq_eq_true hb.1
        have hby := Nat.le_of_ble_eq_true hb.2
        split at hs
        · rename_i s2 rows2 hx
          obtain ⟨q, hq⟩ := h.eval x
          obtain ⟨m2, hq2⟩ := rows_rep hq hx
          split at hs
          · rename_i u hu
            have hev := root_eval h hu
            split at hs
            · rename_i hd
              obtain ⟨⟨rfl, rfl, hl⟩, hput⟩ := hs
              rw [forceL_eq] at hput
              refine append_own (p := dstPlace dst) h hd hev hq2 hl hby (.inl rfl) fun v S' w' t1 t2 t3 => ?_
              obtain ⟨fr', k1, k2⟩ := putD_sound t2 t3 (fun t ht => (no_men_sl ht).elim) hput
              exact hK fr' S' w' _ k1 t1 k2
            · rename_i hd
              obtain ⟨⟨rfl, rfl, hl⟩, hput⟩ := hs
              rw [forceL_eq] at hput
              refine append_own (p := dstPlace dst) h hd hev hq2 hl hby (.inr rfl) fun v S' w' t1 t2 t3 => ?_
              obtain ⟨fr', k1, k2⟩ := putD_sound t2 t3 (fun t ht => (no_men_sl ht).elim) hput
              exact hK fr' S' w' _ k1 t1 k2
            · exact hs.elim
          · split at hs
            · rename_i hnil
              obtain ⟨⟨rfl, hl⟩, hput⟩ := hs
              obtain ⟨q', hq'⟩ := h.eval s
              rw [hnil] at hq'
              refine append_nil (p := dstPlace dst) h.wf hq'.nil_inv hq2 hl hby (.inr rfl) fun v S' w' hp hr => ?_
              obtain ⟨fr', k1, k2⟩ := putD_sound (h.drop hp) hr (fun t ht => (no_men_sl ht).elim) hput
              exact hK fr' S' w' _ k1 hp.trans k2
            · exact hs.elim
        · exact hs.elim
      · exact hs.elim
    · exact hs.elim
  · exact hs.elim
/-- An alias is noted. -/
theorem alias_sound {S : Sig} {w : World} {a : Act} {fr : List D} {u0 u : Nat} {dst : Option Nat} {ty : TypeId} {pos : String} {after : Array Edge} {guard : Option (Nat × Bool)} {K : List D → Prop} {d : D} (h : FR S w a fr) (hd : fr[u]? = some d) (ho : d.owns = true) (hu : ∀ v, a.tmps[u]? = some v → a.eval (.tmp u0) = v)
    (hs : match dst with | some t => (match Nat.beq t u with | false => putD fr (some t) (.al u) K | true => False) | none => K fr) : StepOk P S w a (Oper.mk dst (.move (.tmp u0)) ty pos after guard) K := by
  intro K' Q hK
  obtain ⟨v, hv, hrep⟩ := h.at hd
  cases dst with
  | none => exact r_move (v := v) (hu v hv) (hK fr S w _ hs (Trans.refl S w) h)
  | some t =>
    simp only at hs
    split at hs
    · rename_i hne
      have hne' : t ≠ u := fun e => by subst e; simp at hne
      refine r_move (v := v) (hu v hv) ?_
      simp only [putD] at hs
      split at hs
      · rename_i d0 h0
        have hlt : t < fr.length := (List.getElem?_eq_some_iff.1 h0).1
        have fin : ∀ (fr1 : List D), fr1.length = fr.length → (∀ (i : Nat) (e : D), i ≠ t → fr1[i]? = some e → (fr[i]? = some e ∧ e ≠ .al t) ∨ e = .any) → (∀ (i : Nat) (cs : List D), fr[i]? = some (.obj cs) → i ≠ t ∧ fr1[i]? = some (.obj cs)) → (∀ (i : Nat) (e : D), i ≠ t → fr[i]? = some e → e.owns = true → fr1[i]? = some e) → FR S w (a.put (some t) v) (fr1.set t (.al u)) := by
          intro fr1 hl hc hobj hown
          have hrk : ∀ e, RefOk fr e → RefOk (fr1.set t (.al u)) e := fun e he x hx => by
            obtain ⟨cs, hcs⟩ := he x hx
            obtain ⟨k1, k2⟩ := hobj x cs hcs
            exact ⟨cs, by rw [List.getElem?_set_ne (Ne.symm k1)]; exact k2⟩
          refine ⟨h.wf, by simp [Act.put, h.size, hl], by simp [Act.put, h.defers], fun i e u' hi hu' => ?_⟩
          by_cases hit : i = t
          · subst hit
            rw [List.getElem?_set_self (by omega)] at hi
            rw [put_tmps_eq (by rw [h.size]; exact hlt)] at hu'
            cases hi; cases hu'
            exact ⟨by rw [put_tmps_ne (Ne.symm hne')]; exact hv, d, by rw [List.getElem?_set_ne hne']; exact hown u d (Ne.symm hne') hd ho, ho, Ne.symm hne'⟩
          · rw [List.getElem?_set_ne (Ne.symm hit)] at hi
            rw [put_tmps_ne hit] at hu'
            rcases hc i e hit hi with ⟨k1, k2⟩ | rfl
            · have hsl := h.slot i e u' k1 hu'
              cases e with
              | al x =>
                obtain ⟨g1, d', g2, g3, g4⟩ := hsl
                have hxt : x ≠ t := fun e => k2 (by rw [e])
                exact ⟨by rw [put_tmps_ne hxt]; exact g1, d', by rw [List.getElem?_set_ne (Ne.symm hxt)]; exact hown x d' hxt g2 g3, g3, g4⟩
              | _ => exact ⟨hsl.1, hrk _ hsl.2⟩
            · exact SlotRep.of (.fz (.any _)) fun t ht => by cases ht
        split at hs
        · rename_i hno
          rw [force_eq, forceL_eq] at hs
          refine hK _ S w _ hs (Trans.refl S w) (fin fr rfl (fun i e hi he => .inl ⟨he, fun e' => ?_⟩) (fun i cs hi => ⟨fun e => (by subst e; rw [h0] at hi; cases hi; cases hno), hi⟩) fun i e _ he _ => he)
          subst e'
          obtain ⟨v', hv', hsl⟩ := h.at he
          obtain ⟨_, d', g2, g3, _⟩ := hsl
          rw [h0] at g2
          cases g2
          rw [hno] at g3
          cases g3
        · split at hs
          · rename_i hn
            rw [force_eq, forceL_eq] at hs
            refine hK _ S w _ hs (Trans.refl S w) (fin _ (by simp) (fun i e hi he => ?_) (fun i cs hi => ⟨fun e => (by subst e; rw [h0] at hi; cases hi; cases hn), by rw [List.getElem?_map, hi]; rfl⟩) fun i e _ he hoe => by rw [List.getElem?_map, he]; cases e <;> first | rfl | cases hoe)
            rw [List.getElem?_map] at he
            cases hfi : fr[i]? with
            | none => rw [hfi] at he; cases he
            | some e0 =>
              rw [hfi] at he
              cases he
              cases e0 with
              | al x =>
                by_cases hxt : x = t
                · simp only [unal, if_pos hxt]; exact .inr trivial
                · simp only [unal, if_neg hxt]; exact .inl ⟨trivial, fun e => hxt (D.al.inj e)⟩
              | _ => exact .inl ⟨rfl, fun e => by cases e⟩
          · exact hs.elim
      · exact hs.elim
    · exact hs.elim
theorem ref_rep {S : Sig} {w : World} {a : Act} {fr : List D} (h : FR S w a fr) {u : Nat} {cs : List D} (hd : fr[u]? = some (.obj cs)) (off : Nat) : (∀ p, Rep S w p (.pointer (some ⟨S.loc (u + 2), off, none⟩)) (.ref u off)) ∧ RefOk fr (.ref u off) ∧ a.tmps[u]? = some (.pointer (some ⟨S.loc (u + 2), 0, none⟩)) := by
  obtain ⟨v, hv, hs⟩ := h.at hd
  obtain ⟨b, cur, e, rfl, hb, hloc, _⟩ := hs.1.obj_inv
  refine ⟨fun p => .ref (by rw [hloc]; exact hb), fun t ht => ?_, by rw [hv, hloc]⟩
  cases ht
  exact ⟨cs, hd⟩
theorem loadD_sound (hT : TOk P T Z) {S : Sig} {w : World} {a : Act} {fr : List D} {ty0 u off : Nat} {x : Operand} {dst : Option Nat} {ty : TypeId} {pos : String} {after : Array Edge} {guard : Option (Nat × Bool)} {K : List D → Prop} (h : FR S w a fr) (hx : objAt fr x = some (u, off)) (hs : loadD T ty0 u off dst fr K) : StepOk P S w a (Oper.mk dst (.load ty0 x) ty pos after guard) K := by
  intro K' Q hK
  obtain ⟨cs0, hd0, hev⟩ := h.objAt hx
  obtain ⟨cv, hcv⟩ := h.loadObj hd0
  unfold loadD at hs
  split at hs
  · rename_i cs hd
    rw [hd0] at hd
    obtain rfl : cs = cs0 := (D.obj.inj (Option.some.inj hd)).symm
    split at hs
    · rename_i n fl ks ht
      haveI := (hT.ty _ _ ht).1
      split at hs
      · rename_i hb
        simp only [Bool.and_eq_true] at hb
        have hle := Nat.le_of_ble_eq_true hb.1
        have hcell : ∀ j, j < n → ∃ d, ((cs.drop off).take n)[j]? = some d ∧ w.cell? ⟨S.loc (u + 2), off + j, none⟩ = some (cv (off + j)) ∧ (cv (off + j)).oneCell' = true ∧ Fz S.lim w (cv (off + j)) d := fun j hj => by
          have hjl : off + j < cs.length := by omega
          have hg : ((cs.drop off).take n)[j]? = some cs[off + j] := by rw [List.getElem?_take, if_pos hj, List.getElem?_drop, List.getElem?_eq_getElem hjl]
          obtain ⟨h1, h2, h3⟩ := hcv _ _ (List.getElem?_eq_getElem hjl)
          exact ⟨_, hg, h1, h2, D.one_fz h3 (List.all_eq_true.1 hb.2 _ (List.mem_of_getElem? hg))⟩
        have hfz : Fz S.lim w (.agg ((List.range n).map fun j => cv (off + j)).toArray) (.agg ((cs.drop off).take n)) := by
          refine .agg _ (by simp; omega) (fun v hv => ?_) fun j d v hj hv => ?_
          · obtain ⟨j, hj, rfl⟩ := List.mem_map.1 hv
            obtain ⟨d, _, _, h2, _⟩ := hcell j (List.mem_range.1 hj)
            exact h2
          · have hjn : j < n := by have := (List.getElem?_eq_some_iff.1 hv).1; simpa using this
            rw [List.getElem?_map, List.getElem?_range hjn] at hv
            cases hv
            obtain ⟨d', h1, _, _, h4⟩ := hcell j hjn
            rw [hj] at h1
            cases h1
            exact h4
        obtain ⟨fr', k1, k2⟩ := putD_sound (dst := dst) h (.fz hfz) (fun t ht => (hfz.men ht).elim) hs
        refine r_loadN (cs := (List.range n).map fun j => cv (off + j)) hev (fun j v hv => ?_) (by simp) (hK fr' S w _ k1 (Trans.refl S w) k2)
        have hjn : j < n := by have := (List.getElem?_eq_some_iff.1 hv).1; simpa using this
        rw [List.getElem?_map, List.getElem?_range hjn] at hv
        cases hv
        obtain ⟨d', _, h2, _⟩ := hcell j hjn
        exact h2
      · exact hs.elim
    · rename_i i hi ht
      haveI := (hT.ty _ _ ht).one (fun n fl ks e => hi n fl ks e)
      split at hs
      · rename_i d hd
        split at hs
        · rename_i ho
          obtain ⟨h1, h2, h3⟩ := hcv _ _ hd
          have hfz := D.one_fz h3 ho
          obtain ⟨fr', k1, k2⟩ := putD_sound (dst := dst) h (.fz hfz) (fun t ht => (hfz.men ht).elim) hs
          exact r_load1 hev h1 (hK fr' S w _ k1 (Trans.refl S w) k2)
        · exact hs.elim
      · exact hs.elim
    · exact hs.elim
  · exact hs.elim
theorem storeD_sound (hT : TOk P T Z) {S : Sig} {w : World} {a : Act} {fr : List D} {ty0 : Nat} {x v : Operand} {dst : Option Nat} {ty : TypeId} {pos : String} {after : Array Edge} {guard : Option (Nat × Bool)} {K : List D → Prop} (h : FR S w a fr) (hs : storeD T ty0 x v dst fr K) : StepOk P S w a (Oper.mk dst (.store ty0 x v) ty pos after guard) K := by
  intro K' Q hK
  unfold storeD at hs
  split at hs
  · exact hs.elim
  · split at hs
    · rename_i u off hx
      obtain ⟨cs0, hd0, hev⟩ := h.objAt hx
      split at hs
      · rename_i cs hd
        rw [hd0] at hd
        obtain rfl : cs = cs0 := (D.obj.inj (Option.some.inj hd)).symm
        split at hs
        · rename_i ti ht
          split at hs
          · rename_i vs hv
            split at hs
            · rename_i hb
              simp only [Bool.and_eq_true] at hb
              have hn := Nat.eq_of_beq_eq_true hb.1
              have hle := Nat.le_of_ble_eq_true hb.2
              simp only [putObj, forceH_eq, forceL_eq] at hs
              obtain ⟨q, hq⟩ := h.eval v
              have hc := CR.of hq hv
              obtain ⟨b, cur, e, hb', hloc, hh, hsz, htr, hfr⟩ := h.storeObj hd0 hc hle
              rw [hloc] at hev
              refine r_store (n := vs.length) (by rw [(hT.ty _ _ ht).sz, hn]) hev rfl hc.len hc.one hh (by omega) ?_
              exact hK _ S _ a hs htr hfr
            · exact hs.elim
          · exact hs.elim
        · exact hs.elim
      · exact hs.elim
    · exact hs.elim
theorem newObj_sound {S : Sig} {w w' : World} {a : Act} {fr : List D} {t g : Nat} {cs : List D} {us : List Value} {ty : TypeId} {K : List D → Prop} (h : FR S w a fr) (hs : newObj fr t cs K) (hb : Blk w' g ty us.toArray) (hx : Ext w w') (hg : g = w.heap.size) (hc : CR S.lim w us cs) :
    ∃ fr' S', K fr' ∧ Trans S w S' w' ∧ FR S' w' (a.put (some t) (.pointer (some ⟨g, 0, none⟩))) fr' := by
  unfold newObj at hs
  split at hs
  · rename_i d0 h0
    split at hs
    · rename_i ho
      simp only [putObj, forceH_eq, forceL_eq] at hs
      simp only [Bool.or_eq_false_iff] at ho
      obtain ⟨S', t1, f1⟩ := h.allocObj (fun e => by subst e; simp at ho) h0 ho.1 hb hx hg hc
      exact ⟨_, S', hs, t1, f1⟩
    · exact hs.elim
  · exact hs.elim
theorem allocD_sound (hT : TOk P T Z) {S : Sig} {w : World} {a : Act} {fr : List D} {ty0 : Nat} {dst : Option Nat} {ty : TypeId} {pos : String} {after : Array Edge} {guard : Option (Nat × Bool)} {K : List D → Prop} (h : FR S w a fr) (hs : allocD Z M ty0 dst fr K) : StepOk P S w a (Oper.mk dst (.alloc ty0) ty pos after guard) K := by
  intro K' Q hK
  unfold allocD at hs
  split at hs
  · split at hs
    · split at hs
      · rename_i zc hz
        split at hs
        · rename_i h1
          haveI := hT.zer _ _ hz
          refine r_alloc fun g w' hb hx hg => ?_
          obtain ⟨fr', S', k, t1, f1⟩ := newObj_sound h hs hb hx hg (CR.zero h1)
          exact hK fr' S' w' _ k t1 f1
        · exact hs.elim
      · exact hs.elim
    · exact hs.elim
  · exact hs.elim
theorem boxD_sound {S : Sig} {w : World} {a : Act} {fr : List D} {ty0 t : Nat} {v : Operand} {ty : TypeId} {pos : String} {after : Array Edge} {guard : Option (Nat × Bool)} {K : List D → Prop} (h : FR S w a fr) (hs : boxD ty0 v t fr K) : StepOk P S w a (Oper.mk (some t) (.box ty0 v) ty pos after guard) K := by
  intro K' Q hK
  unfold boxD at hs
  split at hs
  · rename_i cs hc
    obtain ⟨q, hq⟩ := h.eval v
    refine r_box rfl fun g w' hb hx hg => ?_
    obtain ⟨fr', S', k, t1, f1⟩ := newObj_sound (us := (a.eval v).cells.toList) h hs (by simpa using hb) hx hg (CR.of hq hc)
    exact hK fr' S' w' _ k t1 f1
  · exact hs.elim
/-- A variable that is written once, where it is made. -/
theorem pairD_sound (hT : TOk P T Z) {S : Sig} {w : World} {a : Act} {fr : List D} {o o2 : Oper} {ty : Nat} {K : List D → Prop} (h : FR S w a fr) (ho : o.op = .alloc ty) (hs : pairD T Z o o2 ty fr K) {Q : Exit → Act → World → Prop} {ops : Array Oper} {r : List Oper} (hg : o.guard = none)
    (hK : ∀ fr' S' w' a', K fr' → Trans S w S' w' → FR S' w' a' fr' → wpList P ops Q r a' w') : wpList P ops Q (o :: o2 :: r) a w := by
  unfold pairD at hs
  split at hs
  · rename_i t ty2 t2 v hdst hop2 hdst2 hg2
    split at hs
    · rename_i hb
      simp only [Bool.and_eq_true] at hb
      obtain rfl := Nat.eq_of_beq_eq_true hb.1
      obtain rfl := Nat.eq_of_beq_eq_true hb.2
      split at hs
      · rename_i ti zc ht hz
        rw [forceL_eq] at hs
        obtain ⟨S1, t1, h1⟩ := frz1_sound h v
        haveI := hT.zer _ _ hz
        have key : ∀ {vs : List D}, (evalD (frz1 fr v) v).cellsOf = some vs → (Nat.beq vs.length ti.cells && Nat.beq zc.length ti.cells) = true → putD (frz1 fr v) (some t) (.ptr vs) K → (∀ p : Value, (a.put (some t) p).eval v = a.eval v) → wpList P ops Q (o :: o2 :: r) a w := by
          intro vs hv hb2 hput hev
          simp only [Bool.and_eq_true] at hb2
          have hn1 := Nat.eq_of_beq_eq_true hb2.1
          have hn2 := Nat.eq_of_beq_eq_true hb2.2
          obtain ⟨q, hq⟩ := h1.eval v
          have hc := CR.of hq hv
          obtain ⟨dst, op, oty, pos, after, guard⟩ := o
          obtain ⟨dst2, op2, oty2, pos2, after2, guard2⟩ := o2
          simp only at ho hdst hop2 hdst2 hg hg2
          subst ho; subst hdst; subst hop2; subst hdst2
          refine wpList_plain hg fun K1 hK1 => r_alloc fun g w' hb' hx hgs => hK1 _ _ ?_
          refine wpList_plain hg2 fun K2 hK2 => ?_
          have ht' : t < a.tmps.size := by
            have : ∃ d0, (frz1 fr v)[t]? = some d0 := by
              simp only [putD] at hput
              split at hput
              · exact ⟨_, by assumption⟩
              · exact hput.elim
            obtain ⟨d0, hd0⟩ := this
            rw [h1.size]
            exact (List.getElem?_eq_some_iff.1 hd0).1
          refine r_store (n := ti.cells) (us := (a.eval v).cells.toList) (b := g) (o := 0) (hT.ty _ _ ht).sz ?_ ?_ (by rw [hc.len, hn1]) hc.one hb' (by simp; omega) (hK2 _ _ ?_)
          · have := put_tmps_eq (v := .pointer (some ⟨g, 0, none⟩)) ht'
            simp [Act.eval, Array.getD_eq_getD_getElem?, this]
          · rw [hev]
          · have hx2 : Ext w ((w'.setRow g (zc.toArray.toList.take 0 ++ (a.eval v).cells.toList ++ zc.toArray.toList.drop (0 + ti.cells)).toArray)) := Ext.setRow hx (by omega)
            have hpt := PT.ext' h1.wf hx2
            have hrow : (w'.setRow g (zc.toArray.toList.take 0 ++ (a.eval v).cells.toList ++ zc.toArray.toList.drop (0 + ti.cells)).toArray).heap[g]? = some (.cells (zc.toArray.toList.take 0 ++ (a.eval v).cells.toList ++ zc.toArray.toList.drop (0 + ti.cells)).toArray ty (0, 0)) := setRow_heap w' g _ _ ty _ hb'
            have hcells : (zc.toArray.toList.take 0 ++ (a.eval v).cells.toList ++ zc.toArray.toList.drop (0 + ti.cells)) = (a.eval v).cells.toList := by
              simp [List.drop_eq_nil_of_le, hn2]
            rw [hcells] at hrow hpt ⊢
            have hfz : Fz S1.lim (w'.setRow g (a.eval v).cells.toList.toArray) (.pointer (some ⟨g, 0, none⟩)) (.ptr vs) := by
              refine .ptr (fun j => (a.eval v).cells.toList.getD j undef) (fun j d hj => ?_) fun j d hj => ?_
              · have hjl := lt_of_len hc.len hj
                have he : (a.eval v).cells.toList[j]? = some ((a.eval v).cells.toList.getD j undef) := by rw [List.getD_eq_getElem?_getD, List.getElem?_eq_getElem hjl]; rfl
                refine ⟨by rw [cell_of_row _ g _ _ ty (0, 0) hrow, Nat.zero_add]; simpa using he, fun s hs' => ?_, hc.one _ (List.mem_of_getElem? he)⟩
                exfalso
                simp only [Sig.lim] at hs'
                cases hx' : S1.own g with
                | none => rw [hx'] at hs'; cases hs'
                | some y => have := h1.wf g y hx'; omega
              · have hjl := lt_of_len hc.len hj
                have he : (a.eval v).cells.toList[j]? = some ((a.eval v).cells.toList.getD j undef) := by rw [List.getD_eq_getElem?_getD, List.getElem?_eq_getElem hjl]; rfl
                exact (hc.fz j d _ hj he).trans hpt.trans
            obtain ⟨fr', k1, k2⟩ := putD_sound (dst := some t) (v := .pointer (some ⟨g, 0, none⟩)) (h1.drop hpt) (.fz hfz) (fun t ht => (hfz.men ht).elim) hput
            exact hK fr' S1 _ _ k1 (t1.trans hpt.trans) k2
        split at hs
        · rename_i tv
          split at hs
          · rename_i hne
            split at hs
            · rename_i vs hv
              split at hs
              · rename_i hb2
                refine key hv hb2 hs fun p => ?_
                have hne' : tv ≠ t := fun e => by subst e; simp at hne
                simp only [Act.eval, Array.getD_eq_getD_getElem?, put_tmps_ne hne']
              · exact hs.elim
            · exact hs.elim
          · exact hs.elim
        · split at hs
          · rename_i vs hv
            split at hs
            · rename_i hb2
              exact key hv hb2 hs fun p => rfl
            · exact hs.elim
          · exact hs.elim
        · exact hs.elim
      · exact hs.elim
    · exact hs.elim
  · exact hs.elim
theorem hand_sound {S : Sig} {w : World} {a : Act} {fr : List D} {c : Call} {f u : Nat} {x : Operand} {xs : List Operand} {dst : Option Nat} {ty : TypeId} {pos : String} {after : Array Edge} {guard : Option (Nat × Bool)} {K : List D → Prop} (h : FR S w a fr) (hc : c.callee = .value (.func f)) (hargs : c.args.toList = x :: xs) (hu : rootOf fr x = some u) (hs : handD P f u xs dst fr K) : StepOk P S w a (Oper.mk dst (.call c) ty pos after guard) K := by
  intro K' Q hK
  obtain ⟨callee, args, argTypes⟩ := c
  simp only at hc hargs
  subst hc
  obtain rfl : args = (x :: xs).toArray := Array.ext' hargs
  unfold handD at hs
  split at hs
  · rename_i m sz rows hd
    obtain ⟨d, out, ⟨d1, ds', rfl, hl, hp, hsem⟩, hput⟩ := hs.h
    refine own_call (p := dstPlace dst) h hd (root_eval h hu) hl hp hsem fun v S' w' t1 t2 t3 => ?_
    have hcalm := hsem.2.1
    have fin : ∀ {fr1 : List D}, FR S' w' a fr1 → putD fr1 dst d K → K' (a.put dst v) w' := fun f1 hp1 => by
      obtain ⟨fr', k1, k2⟩ := putD_sound f1 t3 (fun t ht => absurd ht (D.calm_men hcalm)) hp1
      exact hK fr' S' w' _ k1 t1 k2
    cases out with
    | none => simp only [forceL_eq] at hput; exact fin t2 hput
    | some d' => simp only [forceL_eq] at hput; exact fin t2 hput
  · exact hs.elim
theorem lend1_sound {S : Sig} {w : World} {a : Act} {fr : List D} (h : FR S w a fr) {q : Place} {v : Value} {d : D} (hr : Rep S w q v d) : Fz (S.lend w).lim w v (lend1 fr d) := by
  have plain : ∀ {d : D}, Rep S w q v d → Fz (S.lend w).lim w v (match d.one with | true => d | false => .any) := fun {d} hr => by
    split
    · rename_i ho
      exact (D.one_fz hr ho).lend
    · exact .any _
  cases d with
  | ref u off =>
    simp only [lend1]
    split
    · rename_i cs hd
      split
      · rename_i ho
        cases hr with
        | fz h => cases h
        | ref hown =>
          obtain ⟨cv, hcv⟩ := h.loadObj hd
          refine .ptr (fun j => cv (off + j)) (fun j d hj => ?_) fun j d hj => ?_
          · rw [List.getElem?_drop] at hj
            obtain ⟨h1, h2, h3⟩ := hcv _ _ hj
            exact ⟨h1, lend_okc h1, h2⟩
          · rw [List.getElem?_drop] at hj
            obtain ⟨h1, h2, h3⟩ := hcv _ _ hj
            exact (D.one_fz h3 (List.all_eq_true.1 ho d (List.mem_of_getElem? hj))).lend
      · exact .any _
    · exact .any _
  | _ => exact plain hr
theorem lendD_sound {S : Sig} {w : World} {a : Act} {fr : List D} (h : FR S w a fr) {q : Place} {v : Value} {d : D} (hr : Rep S w q v d) : Fz (S.lend w).lim w v (lendD fr d) := by
  have plain : ∀ {d : D}, Rep S w q v d → Fz (S.lend w).lim w v (match d.passes with | true => d | false => .any) := fun {d} hr => by
    split
    · rename_i ho
      exact (hr.passes ho).lend
    · exact .any _
  cases d with
  | fn f caps =>
    obtain ⟨vs, rfl, hl, ih⟩ := hr.fn_inv
    refine .fn vs (by simp [hl]) fun j d v hd hv => ?_
    rw [List.getElem?_map] at hd
    cases hc : caps[j]? with
    | none => rw [hc] at hd; cases hd
    | some e =>
      rw [hc] at hd
      cases hd
      exact lend1_sound h (ih j e v hc hv)
  | sl m sz rows =>
    cases hr with
    | fz hz =>
      have hz2 := hz.lend
      simp only [lendD]
      cases hz2 with
      | slNil => exact .slNil 0 sz
      | slE => exact .slE _ sz
      | sl cv a1 a2 a3 a4 a5 => exact .sl cv a1 a2 a3 a4 a5
    | @own _ b cap _ _ _ cur e g =>
      refine g.fz2 (fun hz => hz.lend) rfl fun k hk s hs => ?_
      simp only [Sig.lim, Sig.lend, g.own, g.heap, Option.map_some, Option.some.injEq] at hs
      have h1 := g.size
      have h2 := Nat.mul_le_mul_right sz g.le
      omega
  | obj cs =>
    simp only [lendD]
    split
    · rename_i ho
      cases hr with
      | fz h => cases h
      | @obj t b _ _ cur e hb hp hl hh hs h1 ih =>
        refine .ptr (fun j => cur.getD j undef) (fun j d hj => ?_) fun j d hj => ?_
        · have hjl : j < cur.size := by rw [← hs]; exact (List.getElem?_eq_some_iff.1 hj).1
          have hc : cur[j]? = some (cur.getD j undef) := by simp [Array.getD_eq_getD_getElem?, hjl]
          have hcell : w.cell? ⟨b, 0 + j, none⟩ = some (cur.getD j undef) := by rw [Nat.zero_add, cell_of_row w b _ cur e (0, 0) hh]; exact hc
          exact ⟨hcell, lend_okc hcell, h1 j _ hc⟩
        · have hjl : j < cur.size := by rw [← hs]; exact (List.getElem?_eq_some_iff.1 hj).1
          have hc : cur[j]? = some (cur.getD j undef) := by simp [Array.getD_eq_getD_getElem?, hjl]
          exact (D.one_fz (ih j d _ hj hc) (List.all_eq_true.1 ho d (List.mem_of_getElem? hj))).lend
    · exact .any _
  | ref u off => exact lend1_sound h hr
  | _ => exact plain hr
theorem lendE_sound {S : Sig} {w : World} {a : Act} {fr : List D} {c : Call} {f : Nat} {dst : Option Nat} {ty : TypeId} {pos : String} {after : Array Edge} {guard : Option (Nat × Bool)} {K : List D → Prop} (h : FR S w a fr) (hc : c.callee = .value (.func f)) (hs : lendE P f c.args.toList dst fr K) : StepOk P S w a (Oper.mk dst (.call c) ty pos after guard) K := by
  intro K' Q hK
  obtain ⟨callee, args, argTypes⟩ := c
  simp only at hc
  subst hc
  obtain ⟨d, ⟨hflat, ds', h1, h2, hsem⟩, hput⟩ := hs.h
  simp only at h1
  have hlen : (args.toList.map a.eval).length = ds'.length := by rw [h1.len]; simp
  have hfz : ∀ (i : Nat) (d : D) (v : Value), ds'[i]? = some d → (args.toList.map a.eval)[i]? = some v → Fz (S.lend w).lim w v d := fun i d v hd hv => by
    rw [List.getElem?_map] at hv
    cases hx : args.toList[i]? with
    | none => rw [hx] at hv; cases hv
    | some x =>
      rw [hx] at hv
      cases hv
      obtain ⟨q, hq⟩ := h.eval x
      have hle := h1.get (i := i) (d := lendD fr (evalD fr x)) (by rw [List.getElem?_map, hx]; rfl) hd
      exact ((Rep.fz (S := S.lend w) (p := .dead) (lendD_sound h hq)).le hle).passes (List.all_eq_true.1 h2 d (List.mem_of_getElem? hd))
  have hcalm := hsem.2.1
  haveI := hsem.1
  refine r_call (call_lend hsem hflat h.wf hlen hfz) (by apply Array.ext'; simp) fun e w' ⟨v, he, hpt, hrep⟩ => ?_
  subst he
  obtain ⟨fr', k1, k2⟩ := putD_sound (dst := dst) (h.drop hpt) (hrep _) (fun t ht => absurd ht (D.calm_men hcalm)) hput
  exact hK fr' S w' _ k1 hpt.trans k2
theorem handO_sound {S : Sig} {w : World} {a : Act} {fr : List D} {c : Call} {f u : Nat} {x : Operand} {xs : List Operand} {dst : Option Nat} {ty : TypeId} {pos : String} {after : Array Edge} {guard : Option (Nat × Bool)} {K : List D → Prop} (h : FR S w a fr) (hc : c.callee = .value (.func f)) (hargs : c.args.toList = x :: xs) (hu : objAt fr x = some (u, 0)) (hs : handO P f u xs dst fr K) : StepOk P S w a (Oper.mk dst (.call c) ty pos after guard) K := by
  intro K' Q hK
  obtain ⟨callee, args, argTypes⟩ := c
  simp only at hc hargs
  subst hc
  obtain rfl : args = (x :: xs).toArray := Array.ext' hargs
  obtain ⟨cs0, hd0, hev⟩ := h.objAt hu
  unfold handO at hs
  split at hs
  · rename_i cs hd
    split at hs
    · rename_i hcalm1
      obtain ⟨d, out, ⟨d1, ds', rfl, hl, hp, hsem⟩, hput⟩ := hs.h
      split at hput
      · rename_i cs'
        simp only [putObj, forceH_eq, forceL_eq] at hput
        refine own_callO (p := dstPlace dst) h hd hcalm1 hev hl hp hsem fun v S' w' t1 t2 t3 => ?_
        have hcalm := hsem.2.1
        obtain ⟨fr', k1, k2⟩ := putD_sound t2 t3 (fun t ht => absurd ht (D.calm_men hcalm)) hput
        exact hK fr' S' w' _ k1 t1 k2
      · exact hput.elim
    · exact hs.elim
  · exact hs.elim
theorem stepD_sound (hT : TOk P T Z) {S : Sig} {w : World} {a : Act} {fr : List D} {o : Oper} {K : List D → Prop} (h : FR S w a fr) (hs : stepD P T Z M o fr K) : StepOk P S w a o K := by
  have ev : ∀ t v, a.tmps[t]? = some v → a.eval (.tmp t) = v := fun t v hv => by simp [Act.eval, Array.getD_eq_getD_getElem?, hv]
  obtain ⟨dst, op, ty, pos, after, guard⟩ := o
  unfold stepD at hs
  simp only at hs
  split at hs
  · split at hs
    · rename_i hd
      exact alias_sound h hd rfl (ev _) hs
    · rename_i hd
      exact alias_sound h hd rfl (ev _) hs
    · rename_i u u' hd
      obtain ⟨v, hv, hsl⟩ := h.at hd
      obtain ⟨g1, d', g2, g3, _⟩ := hsl
      refine alias_sound h g2 g3 (fun v' hv' => ?_) hs
      rw [g1] at hv'
      cases hv'
      exact ev _ _ hv
    · rename_i hd
      obtain ⟨r1, r2, r3⟩ := ref_rep h hd 0
      obtain ⟨fr', k1, k2⟩ := putD_sound h (r1 _) r2 hs
      exact fun K' Q hK => r_move (ev _ _ r3) (hK fr' S w _ k1 (Trans.refl S w) k2)
    · exact pureD_sound hT h hs
  · split at hs
    · exact take_sound h (ev _) hs
    · exact take_sound h (ev _) hs
    · rename_i u u' hd
      obtain ⟨v, hv, hsl⟩ := h.at hd
      refine take_sound h (fun v' hv' => ?_) hs
      rw [hsl.1] at hv'
      cases hv'
      exact ev _ _ hv
    · rename_i hd
      obtain ⟨r1, r2, r3⟩ := ref_rep h hd 0
      obtain ⟨fr', k1, k2⟩ := putD_sound h (r1 _) r2 hs
      exact fun K' Q hK => r_assign (ev _ _ r3) (hK fr' S w _ k1 (Trans.refl S w) k2)
    · exact pureD_sound hT h hs
  · obtain ⟨s, r, hp, h12⟩ := pickD_inv hs
    obtain ⟨h1, h2⟩ := andO_iff.1 h12
    obtain ⟨p, h3, h4⟩ := pickR_sound (h.eval _) (h.eval _) (h.eval _) hp h1
    intro K' Q hK
    refine pick_run h3 ?_
    rw [h4]
    obtain ⟨fr', k1, k2⟩ := putD_sound h (.fz (.bool r)) no_men_bool h2
    exact hK fr' S w _ k1 (Trans.refl S w) k2
  · split at hs
    · rename_i hc
      exact append_sound hT h hc hs
    · rename_i hc
      exact del_sound hT h hc hs
    · exact pureD_sound hT h hs
    · rename_i f hcal
      split at hs
      · split at hs
        · rename_i x xs hargs
          split at hs
          · rename_i u hu
            rw [forceL_eq] at hs
            obtain ⟨S1, t1, h1⟩ := fold_sound (fun S fr x h => down1_sound h x) xs _ _ h
            split at hs
            · rename_i u' hu'
              split at hs
              · rename_i he
                obtain rfl := Nat.eq_of_beq_eq_true he
                exact (hand_sound h1 hcal hargs hu' hs).ghost t1
              · exact hs.elim
            · exact hs.elim
          · split at hs
            · rw [forceL_eq] at hs
              obtain ⟨S1, t1, h1⟩ := fold_sound (fun S fr x h => down1_sound h x) xs _ _ h
              split at hs
              · rename_i u' hu'
                exact (handO_sound h1 hcal hargs hu' hs).ghost t1
              · exact hs.elim
            · rw [forceL_eq] at hs
              obtain ⟨S1, t1, h1⟩ := prep_sound h _
              exact (pureD_sound hT h1 hs).ghost t1
        · exact pureD_sound hT h hs
      · split at hs
        · exact lendE_sound h hcal hs
        · rw [forceL_eq] at hs
          obtain ⟨S1, t1, h1⟩ := prep_sound h _
          exact (pureD_sound hT h1 hs).ghost t1
    · rw [forceL_eq] at hs
      obtain ⟨S1, t1, h1⟩ := prep_sound h _
      exact (pureD_sound hT h1 hs).ghost t1
  · split at hs
    · rename_i hd
      obtain ⟨r1, r2, r3⟩ := ref_rep h hd 0
      obtain ⟨fr', k1, k2⟩ := putD_sound h (r1 _) r2 hs
      exact fun K' Q hK => r_nilCheck (ev _ _ r3) (hK fr' S w _ k1 (Trans.refl S w) k2)
    · exact pureD_sound hT h hs
  · split at hs
    · rename_i hd
      split at hs
      · rename_i ht
        split at hs
        · rename_i off n ag hf
          haveI := (hT.ty _ _ ht).2.1 _ _ _ _ hf
          obtain ⟨r1, r2, _⟩ := ref_rep h hd off
          obtain ⟨_, _, r3⟩ := ref_rep h hd 0
          obtain ⟨fr', k1, k2⟩ := putD_sound h (r1 _) r2 hs
          exact fun K' Q hK => r_fieldAddr (ev _ _ r3) (by rw [Nat.zero_add]; exact hK fr' S w _ k1 (Trans.refl S w) k2)
        · exact hs.elim
      · exact hs.elim
    · exact pureD_sound hT h hs
  · split at hs
    · rename_i hx
      exact loadD_sound hT h hx hs
    · exact pureD_sound hT h hs
  · rw [forceL_eq] at hs
    obtain ⟨S1, t1, h1⟩ := frz1_sound h _
    refine ((storeD_sound hT h1 hs).mono fun {fr' S' w' a'} k f => ?_).ghost t1
    unfold onceD at k
    split at k
    · split at k
      · unfold freezeD at k
        split at k
        · rename_i hd
          split at k
          · rename_i hb
            simp only [Bool.and_eq_true] at hb
            rw [forceL_eq] at k
            obtain ⟨S2, t2, f2⟩ := f.freezeObj hd hb.1 hb.2
            exact ⟨_, S2, k, t2, f2⟩
          · exact k.elim
        · exact k.elim
      · exact ⟨_, _, k, Trans.refl _ _, f⟩
    · exact ⟨_, _, k, Trans.refl _ _, f⟩
  · exact upd_sound hT h hs
  · exact allocD_sound hT h hs
  · split at hs
    · split at hs
      · rw [forceL_eq] at hs
        obtain ⟨S1, t1, h1⟩ := frz1_sound h _
        exact (boxD_sound h1 hs).ghost t1
      · rw [forceL_eq] at hs
        obtain ⟨S1, t1, h1⟩ := prep_sound h _
        exact (pureD_sound hT h1 hs).ghost t1
    · exact hs.elim
  · split at hs
    · rw [forceL_eq] at hs
      obtain ⟨S1, t1, h1⟩ := prep_sound h _
      exact (pureD_sound hT h1 hs).ghost t1
    · exact pureD_sound hT h hs
end
end Go.Proofs.YtdopillligfdiaaDoor
