/- Operations one after the other, on frames of data. Operations under guards, and regions in the order of the text. Regions whose order Go leaves open: whatever the order, the data are the same. Regions whose order Go leaves open: the proof. A drawn region by all sets of operations that may have come so far: one frame a set. Code on frames of data. -/
import Derived.Test.YtbphihljkbdfpaaGreatDoorZ4
import Derived.Deep.LoopGhost
namespace Go.Proofs.YtbphihljkbdfpaaGreatDoor
set_option linter.unusedSimpArgs false
set_option linter.unusedVariables false
open Go.RowKit

def strip : D → D
 | .gd _ d => d
 | d => d
/-- The spine of a list, reckoned before what follows. -/
def forceL {α : Type} : List α → (List α → Prop) → Prop
 | [], K => K []
 | x :: l, K => forceL l fun l => K (x :: l)
theorem forceL_eq {α : Type} : ∀ (l : List α) (K : List α → Prop), forceL l K = K l
 | [], _ => rfl
 | x :: l, K => by rw [forceL, forceL_eq l]
/-- The head of a datum, reckoned before what follows. -/
def force1 (d : D) (K : D → Prop) : Prop :=
 match d with
 | .any => K .any
 | .int k n => K (.int k n)
 | .bool b => K (.bool b)
 | .str s => K (.str s)
 | .pv v => K (.pv v)
 | .nil => K .nil
 | .sl m sz rows => K (.sl m sz rows)
 | .ptr cs => K (.ptr cs)
 | .obj cs => K (.obj cs)
 | .ref t o => K (.ref t o)
 | .gref c t o => K (.gref c t o)
 | .al t => K (.al t)
 | .alc t o => K (.alc t o)
 | .el t o sz k j => K (.el t o sz k j)
 | .es t sz k j => K (.es t sz k j)
 | .fn f cs => K (.fn f cs)
 | .gd c d => K (.gd c d)
 | .agg cs => K (.agg cs)
 | .tup ds => K (.tup ds)
 | .mp kd es => K (.mp kd es)
theorem force1_eq (d : D) (K : D → Prop) : force1 d K = K d := by cases d <;> rfl
def forceH : List D → (List D → Prop) → Prop
 | [], K => K []
 | x :: l, K => force1 x fun x => forceH l fun l => K (x :: l)
theorem forceH_eq : ∀ (l : List D) (K : List D → Prop), forceH l K = K l
 | [], _ => rfl
 | x :: l, K => by rw [forceH, force1_eq, forceH_eq l]
def force (d : D) (K : D → Prop) : Prop :=
 match d with
 | .ptr cs => forceH cs fun cs => K (.ptr cs)
 | .obj cs => forceH cs fun cs => K (.obj cs)
 | .fn f cs => forceH cs fun cs => K (.fn f cs)
 | .gd c (.bool b) => K (.gd c (.bool b))
 | .gd c (.int k n) => K (.gd c (.int k n))
 | .gd c (.agg cs) => forceH cs fun cs => K (.gd c (.agg cs))
 | .gd c (.ptr cs) => forceH cs fun cs => K (.gd c (.ptr cs))
 | .gd c d => K (.gd c d)
 | .agg cs => forceH cs fun cs => K (.agg cs)
 | .tup ds => forceH ds fun ds => K (.tup ds)
 | d => force1 d K
theorem force_eq (d : D) (K : D → Prop) : force d K = K d := by
 unfold force
 split <;> first | rfl | simp only [forceH_eq, force1_eq]
/-- The value goes into its slot. -/
def putD (fr : List D) (dst : Option Nat) (d : D) (K : List D → Prop) : Prop :=
 match dst with
 | none => K fr
 | some t => match fr[t]? with
  | some d0 => match d0.owns with
   | false => force d fun d => forceL (fr.set t d) K
   | true => match d0.isObj with
    | false => force d fun d => forceL ((fr.map (unal t .any)).set t d) K
    | true => False
  | none => False
/-- The elements of what is read stay from now on. -/
def down1 (fr : List D) : Operand → List D
 | .tmp t => match fr[t]? with
  | some (.al u) => match fr[u]? with
   | some (.sl 2 sz rows) => fr.set u (.sl 1 sz rows)
   | _ => fr
  | some (.sl 2 sz rows) => fr.set t (.sl 1 sz rows)
  | some (.alc u off) => match fr[u]? with
   | some (.obj cs) => match cs[off]? with
    | some (.sl 2 sz rows) => fr.set u (.obj (cs.set off (.sl 1 sz rows)))
    | _ => fr
   | _ => fr
  | _ => fr
 | _ => fr
/-- What becomes a part of something is frozen. -/
def frz1 (fr : List D) : Operand → List D
 | .tmp t => match fr[t]? with
  | some (.al u) => match fr[u]? with
   | some (.sl (_ + 1) sz rows) => (fr.map (unal u (.sl 0 sz rows))).set u (.sl 0 sz rows)
   | _ => fr
  | some (.sl (_ + 1) sz rows) => (fr.map (unal t (.sl 0 sz rows))).set t (.sl 0 sz rows)
  | some (.alc u off) => match fr[u]? with
   | some (.obj cs) => match cs[off]? with
    | some (.sl (_ + 1) sz rows) => fr.set u (.obj (cs.set off (.sl 0 sz rows)))
    | _ => fr
   | _ => fr
  | _ => fr
 | _ => fr
def prep (o : Op) (fr : List D) : List D :=
 match o with
 | .indexAddr _ x _ => down1 fr x
 | .call c => match c.callee with
  | .value _ => c.args.toList.foldl down1 fr
  | _ => fr
 | .box _ x => frz1 fr x
 | .slice _ x _ _ _ => frz1 fr x
 | .build _ parts => parts.toList.foldl (fun fr x => frz1 fr x.2) fr
 | .buildSlice _ _ parts => parts.toList.foldl (fun fr x => frz1 fr x.2) fr
 | _ => fr
def needsPrep : Op → Bool
 | .indexAddr _ _ _ | .box _ _ | .slice _ _ _ _ _ | .build _ _ | .buildSlice _ _ _ => true
 | .call _ => true
 | _ => false
def pureD (P : Program) (T : Nat → Option TI) (Z : Nat → Option (List Value)) (o : Oper) (fr : List D) (K : List D → Prop) : Prop :=
 opD P T Z (evalD fr) o.op fun s d => andO s (putD fr o.dst d K)
def pickR (dc : D) (x y : Operand) (ρ : Operand → D) : Option (Option Prop × Bool) :=
 match dc with
 | .bool p => match y with
  | .const (.bool false) => match ρ x with
   | .gd p' (.bool q) => some (some (p = true → p' = true), p && q)
   | .bool q => some (none, p && q)
   | _ => none
  | _ => match x with
   | .const (.bool true) => match ρ y with
    | .gd p' (.bool q) => some (some (p = false → p' = true), p || q)
    | .bool q => some (none, p || q)
    | _ => none
   | _ => none
 | _ => none
def pickD (dc : D) (x y : Operand) (ρ : Operand → D) (K : Option Prop → D → Prop) : Prop :=
 match pickR dc x y ρ with
 | some (s, r) => K s (.bool r)
 | none => False
theorem pickD_inv {dc : D} {x y : Operand} {ρ : Operand → D} {K : Option Prop → D → Prop} (h : pickD dc x y ρ K) : ∃ s r, pickR dc x y ρ = some (s, r) ∧ K s (.bool r) := by
 unfold pickD at h
 split at h
 ·exact ⟨_, _, by assumption, h⟩
 ·exact h.elim
/-- The slot that an operand stands for. -/
def rootOf (fr : List D) : Operand → Option Nat
 | .tmp t => match fr[t]? with
  | some (.al u) => some u
  | some (.sl (_ + 1) _ _) => some t
  | some (.mp _ _) => some t
  | _ => none
 | _ => none
def rowsOf (sz : Nat) : D → Option (Nat × List (List D))
 | .nil => some (sz, [])
 | .sl _ s rows => some (s, rows)
 | _ => none
def appendD (T : Nat → Option TI) (c : Call) (dst : Option Nat) (fr : List D) (K : List D → Prop) : Prop :=
 match c.args.toList, c.argTypes.toList with
 | [s, x], [t, t'] => match T t with
  | some (.sl _ sz bytes _) => match Nat.beq t t' && Nat.ble bytes 1000 with
   | true => match rowsOf sz (evalD fr x) with
    | some (s2, rows2) => match rootOf fr s with
     | some u => match fr[u]? with
      | some (.sl 1 s1 rows) => SideD (s1 = sz ∧ s2 = sz ∧ rows.length + rows2.length ≤ 1000000000) (forceL ((fr.map (unal u .any)).set u .any) fun fr => putD fr dst (.sl 1 sz (rows ++ rows2)) K)
      | some (.sl 2 s1 rows) => SideD (s1 = sz ∧ s2 = sz ∧ rows.length + rows2.length ≤ 1000000000) (forceL ((fr.map (unal u .any)).set u .any) fun fr => putD fr dst (.sl 2 sz (rows ++ rows2)) K)
      | _ => False
     | none => match evalD fr s with
      | .nil => SideD (s2 = sz ∧ rows2.length ≤ 1000000000) (putD fr dst (.sl 2 sz rows2) K)
      | _ => False
    | none => False
   | false => match T t', evalD fr x, Nat.beq sz 1 && Nat.ble bytes 1000 with
    | some .str, .str txt, true => match rootOf fr s with
     | some u => match fr[u]? with
      | some (.sl 1 s1 rows) => SideD (s1 = 1 ∧ rows.length + txt.length ≤ 1000000000) (forceL ((fr.map (unal u .any)).set u .any) fun fr => putD fr dst (.sl 1 1 (rows ++ txt.map bR)) K)
      | some (.sl 2 s1 rows) => SideD (s1 = 1 ∧ rows.length + txt.length ≤ 1000000000) (forceL ((fr.map (unal u .any)).set u .any) fun fr => putD fr dst (.sl 2 1 (rows ++ txt.map bR)) K)
      | _ => False
     | none => match evalD fr s with
      | .nil => SideD (txt.length ≤ 1000000000) (putD fr dst (.sl 2 1 (txt.map bR)) K)
      | _ => False
    | _, _, _ => False
  | _ => False
 | _, _ => False
def takeD (fr : List D) (u : Nat) (dst : Option Nat) (K : List D → Prop) : Prop :=
 match fr[u]? with
 | some (.sl (m + 1) sz rows) => forceL ((fr.map (unal u .any)).set u .any) fun fr => putD fr dst (.sl (m + 1) sz rows) K
 | some (.mp kd es) => forceL ((fr.map (unal u .any)).set u .any) fun fr => putD fr dst (.mp kd es) K
 | _ => False
/-- A map is written. -/
def updD (T : Nat → Option TI) (ty : Nat) (m k v : Operand) (dst : Option Nat) (fr : List D) (K : List D → Prop) : Prop :=
 match dst with
 | some _ => False
 | none => match T ty, rootOf fr m with
  | some (.mp _ _ kd _), some u => match fr[u]? with
   | some (.mp kd' es) => match (evalD fr k).keyV, (evalD fr v).keyV with
    | some kv, some vv => match sameKD kd kd' && fitK kd kv with
     | true => forceL (fr.set u (.mp kd (putV kv vv es))) K
     | false => False
    | _, _ => False
   | _ => False
  | _, _ => False
def delD (T : Nat → Option TI) (c : Call) (dst : Option Nat) (fr : List D) (K : List D → Prop) : Prop :=
 match dst, c.args.toList, c.argTypes.toList with
 | none, [m, k], [ty, kt] => match T ty, rootOf fr m with
  | some (.mp kt' _ kd _), some u => match Nat.beq kt kt' with
   | true => match fr[u]? with
    | some (.mp kd' es) => match (evalD fr k).keyV with
     | some kv => match sameKD kd kd' && fitK kd kv with
      | true => forceL (fr.set u (.mp kd (delV kv es))) K
      | false => False
     | none => False
    | _ => False
   | false => False
  | _, _ => False
 | _, _, _ => False
/-- What an object's cell owns is frozen. -/
def frzC1 (u off : Nat) (fr : List D) : List D :=
 match fr[u]? with
 | some (.obj cs) => match cs[off]? with
  | some (.sl (_ + 1) sz rows) => fr.set u (.obj (cs.set off (.sl 0 sz rows)))
  | _ => fr
 | _ => fr
def frzCs (u off : Nat) : Nat → List D → List D
 | 0, fr => fr
 | n + 1, fr => frzC1 u (off + n) (frzCs u off n fr)
/-- A struct that is read as a whole keeps nothing that is owned. -/
def frzL (T : Nat → Option TI) (ty u off : Nat) (fr : List D) : List D :=
 match T ty with
 | some (.st n _ _) => frzCs u off n fr
 | _ => fr
/-- What is read out of an object. -/
def loadD (T : Nat → Option TI) (ty u off : Nat) (dst : Option Nat) (fr : List D) (K : List D → Prop) : Prop :=
 match fr[u]? with
 | some (.obj cs) => match T ty with
  | some (.st n _ _) => match Nat.ble (off + n) cs.length && ((cs.drop off).take n).all D.one with
   | true => putD fr dst (.agg ((cs.drop off).take n)) K
   | false => False
  | some _ => match cs[off]? with
   | some d => match d.one with
    | true => putD fr dst d K
    | false => False
   | none => False
  | none => False
 | _ => False
def putObj (fr : List D) (u : Nat) (cs : List D) (K : List D → Prop) : Prop := forceH cs fun cs => forceL (fr.set u (.obj cs)) K
/-- Names of what is written go. -/
def eraC (u off n : Nat) (fr : List D) : List D := match fr.any (nmOf u off n) with
 | true => fr.map (unac u off n)
 | false => fr
theorem eraC_eq (u off n : Nat) (fr : List D) : eraC u off n fr = fr.map (unac u off n) := by
 unfold eraC
 split
 ·rfl
 ·rename_i h; exact (unac_map h).symm
def eraU (u : Nat) (fr : List D) : List D := match fr.any (nmU u) with
 | true => fr.map (unob u)
 | false => fr
theorem eraU_eq (u : Nat) (fr : List D) : eraU u fr = fr.map (unob u) := by
 unfold eraU
 split
 ·rfl
 ·rename_i h; exact (unob_map h).symm
def storeD (T : Nat → Option TI) (ty : Nat) (x v : Operand) (dst : Option Nat) (fr : List D) (K : List D → Prop) : Prop :=
 match dst with
 | some _ => False
 | none => match objAt fr x with
  | some (u, off) => match fr[u]? with
   | some (.obj cs) => match T ty with
    | some ti => match (evalD fr v).cellsOf with
     | some vs => match Nat.beq vs.length ti.cells && Nat.ble (off + vs.length) cs.length with
      | true => putObj (eraC u off vs.length fr) u (cs.take off ++ vs ++ cs.drop (off + vs.length)) K
      | false => False
     | none => False
    | none => False
   | _ => False
  | none => False
/-- An object that is written once. -/
def freezeD (fr : List D) (u : Nat) (K : List D → Prop) : Prop :=
 match fr[u]? with
 | some (.obj cs) => match cs.all D.one && (fr.set u .any).all (safeB u) with
  | true => forceL (fr.set u (.ptr cs)) K
  | false => False
 | _ => False
def onceD (M : Nat → Bool) (x : Operand) (fr0 : List D) (K : List D → Prop) (fr : List D) : Prop :=
 match objAt fr0 x with
 | some (u, _) => match M (2000000 + u) with
  | true => freezeD fr u K
  | false => K fr
 | none => K fr
/-- A new variable in memory. -/
def newObj (fr : List D) (t : Nat) (cs : List D) (K : List D → Prop) : Prop :=
 match fr[t]? with
 | some d0 => match d0.owns || Nat.beq t 0 with
  | false => putObj fr t cs K
  | true => False
 | none => False
def allocD (Z : Nat → Option (List Value)) (M : Nat → Bool) (ty : Nat) (dst : Option Nat) (fr : List D) (K : List D → Prop) : Prop :=
 match dst with
 | some t => match M t with
  | true => match Z ty with
   | some zc => match zc.all Value.oneCell' with
    | true => newObj fr t (zeroD zc) K
    | false => False
   | none => False
  | false => False
 | none => False
def boxD (ty : Nat) (v : Operand) (t : Nat) (fr : List D) (K : List D → Prop) : Prop :=
 match (evalD fr v).cellsOf with
 | some cs => newObj fr t cs K
 | none => False
/-- What a call gives that is handed what a slot owns. -/
structure CallO (F : D → Option D → Prop) : Prop where
 h : ∃ d out, F d out
theorem CallO.go {F : D → Option D → Prop} {d : D} {out : Option D} (h : F d out) : CallO F := ⟨d, out, h⟩
def handD (P : Program) (f u : Nat) (xs : List Operand) (dst : Option Nat) (fr : List D) (K : List D → Prop) : Prop :=
 match fr[u]? with
 | some (.sl (m + 1) sz rows) => CallO fun d out => SideD (GivesO P f (.sl (m + 1) sz rows) (xs.map (evalD fr)) d out) (match out with
  | none => forceL ((fr.map (unal u .any)).set u .any) fun fr => putD fr dst d K
  | some d' => forceL ((fr.map (unal u .any)).set u d') fun fr => putD fr dst d K)
 | _ => False
/-- The object of a slot is handed on. -/
def handO (P : Program) (f u : Nat) (xs : List Operand) (dst : Option Nat) (fr : List D) (K : List D → Prop) : Prop :=
 match fr[u]? with
 | some (.obj cs) => match cs.all D.calm1 with
  | true => CallO fun d out => SideD (GivesO P f (.obj cs) (xs.map (evalD fr)) d out) (match out with
   | some (.obj cs') => putObj (eraU u fr) u cs' fun fr => putD fr dst d K
   | _ => False)
  | false => False
 | _ => False
/-- What a call may look at while it runs, of what the caller owns. -/
def lend1 (fr : List D) : D → D
 | .ref u off => match fr[u]? with
  | some (.obj cs) => match cs.all D.one with
   | true => .ptr (cs.drop off)
   | false => .any
  | _ => .any
 | d => match d.one with
  | true => d
  | false => .any
def lendD (fr : List D) : D → D
 | .fn f caps => .fn f (caps.map (lend1 fr))
 | .sl _ sz rows => .sl 0 sz rows
 | .obj cs => match cs.all D.one with
  | true => .ptr cs
  | false => .any
 | .ref u off => lend1 fr (.ref u off)
 | d => match d.passes with
  | true => d
  | false => .any
def lends : D → Bool
 | .ref _ _ => true
 | .fn _ caps => caps.any fun d => match d with
  | .ref _ _ => true
  | _ => false
 | _ => false
/-- A call that hands back no memory. -/
structure GivesL (P : Program) (f : Nat) (args : List D) (d : D) : Prop where
 flat : d.flat = true
 h : Gives P f args d
def lendE (P : Program) (f : Nat) (xs : List Operand) (dst : Option Nat) (fr : List D) (K : List D → Prop) : Prop :=
 CallE fun d => SideD (GivesL P f (xs.map fun x => lendD fr (evalD fr x)) d) (putD fr dst d K)
/-- An operand that may be an object of the frame. -/
def refD (fr : List D) (x : Operand) : D :=
 match x with
 | .tmp t => match fr[t]? with
  | some (.obj _) => .ref t 0
  | _ => evalD fr (.tmp t)
 | x => evalD fr x
/-- One operation. -/
def stepD (P : Program) (T : Nat → Option TI) (Z : Nat → Option (List Value)) (M : Nat → Bool) (o : Oper) (fr : List D) (K : List D → Prop) : Prop :=
 match o.op with
 | .move (.tmp u) => match fr[u]? with
  | some (.sl (_ + 1) _ _) => match o.dst with
   | some t => match Nat.beq t u with
    | false => putD fr (some t) (.al u) K
    | true => False
   | none => K fr
  | some (.mp _ _) => match o.dst with
   | some t => match Nat.beq t u with
    | false => putD fr (some t) (.al u) K
    | true => False
   | none => K fr
  | some (.al u') => match o.dst with
   | some t => match Nat.beq t u' with
    | false => putD fr (some t) (.al u') K
    | true => False
   | none => K fr
  | some (.obj _) => putD fr o.dst (.ref u 0) K
  | _ => pureD P T Z o fr K
 | .assign (.tmp u) => match fr[u]? with
  | some (.sl (_ + 1) _ _) => takeD fr u o.dst K
  | some (.mp _ _) => takeD fr u o.dst K
  | some (.al u') => takeD fr u' o.dst K
  | some (.obj _) => putD fr o.dst (.ref u 0) K
  | _ => pureD P T Z o fr K
 | .pick c x y => pickD (evalD fr c) x y (evalD fr) fun s d => andO s (putD fr o.dst d K)
 | .makeFunc _ _ _ => opD P T Z (refD fr) o.op fun s d => andO s (putD fr o.dst d K)
 | .call c => match c.callee with
  | .builtin .append => appendD T c o.dst fr K
  | .builtin .delete => delD T c o.dst fr K
  | .builtin _ => pureD P T Z o fr K
  | .value (.func f) => match M (1000000 + f) with
   | true => match c.args.toList with
    | x :: xs => match rootOf fr x with
     | some u => forceL (xs.foldl down1 fr) fun fr => match rootOf fr x with
      | some u' => match Nat.beq u' u with
       | true => handD P f u xs o.dst fr K
       | false => False
      | none => False
     | none => match objAt fr x with
      | some (u, 0) => forceL (xs.foldl down1 fr) fun fr => match objAt fr x with
       | some (u', 0) => handO P f u' xs o.dst fr K
       | _ => False
      | _ => forceL (prep (.call c) fr) fun fr => pureD P T Z o fr K
    | [] => pureD P T Z o fr K
   | false => match c.args.toList.any fun x => lends (evalD fr x) with
    | true => lendE P f c.args.toList o.dst fr K
    | false => forceL (prep (.call c) fr) fun fr => pureD P T Z o fr K
  | _ => forceL (prep (.call c) fr) fun fr => pureD P T Z o fr K
 | .nilCheck (.tmp u) => match fr[u]? with
  | some (.obj _) => putD fr o.dst (.ref u 0) K
  | _ => pureD P T Z o fr K
 | .fieldAddr ty (.tmp u) i => match fr[u]? with
  | some (.obj _) => match T ty with
   | some (.st _ fl _) => match fl[i]? with
    | some (off, _ + 1, _) => putD fr o.dst (.ref u off) K
    | _ => False
   | _ => False
  | _ => pureD P T Z o fr K
 | .load ty x => match objAt fr x with
  | some (u, off) => forceL (frzL T ty u off fr) fun fr => loadD T ty u off o.dst fr K
  | none => pureD P T Z o fr K
 | .store ty x v => forceL (frz1 fr v) fun fr => storeD T ty x v o.dst fr (onceD M x fr K)
 | .mapUpdate ty m k v => updD T ty m k v o.dst fr K
 | .alloc ty => allocD Z M ty o.dst fr K
 | .box ty v => match o.dst with
  | some t => match M t with
   | true => forceL (frz1 fr v) fun fr => boxD ty v t fr K
   | false => forceL (prep (.box ty v) fr) fun fr => pureD P T Z o fr K
  | none => False
 | op => match needsPrep op with
  | true => forceL (prep op fr) fun fr => pureD P T Z o fr K
  | false => pureD P T Z o fr K
/-- A name goes on. -/
def nameD (fr : List D) (u : Nat) (dst : Option Nat) (K : List D → Prop) : Prop :=
 match fr[u]? with
 | some (.es x sz k j) => match dst with
  | some t => match Nat.beq t x with
   | false => putD fr (some t) (.es x sz k j) K
   | true => False
  | none => K fr
 | some (.el x off sz k j) => putD fr dst (.el x off sz k j) K
 | some (.alc x off) => putD fr dst (.alc x off) K
 | _ => False
/-- The rows of which an element is named, if they are one's own: the slot, the object's cell, the cell's size, the number and the place. -/
def rowsN (fr : List D) : D → Option (Nat × List (List D))
 | .es u _ _ _ => match fr[u]? with
  | some (.sl (_ + 1) sz rows) => some (sz, rows)
  | _ => none
 | .el u off _ _ _ => match fr[u]? with
  | some (.obj cs) => match cs[off]? with
   | some (.sl (_ + 1) sz rows) => some (sz, rows)
   | _ => none
  | _ => none
 | _ => none
/-- An element is read. -/
def loadR (T : Nat → Option TI) (ty : Nat) (rows : List (List D)) (k j : Nat) (dst : Option Nat) (fr : List D) (K : List D → Prop) : Prop :=
 IdxE fun r => SideD (0 ≤ Int.ofNat k ∧ rows[(Int.ofNat k).toNat]? = some r) (match T ty with
  | some (.st n _ _) => match Nat.ble (j + n) r.length with
   | true => putD fr dst (.agg ((r.drop j).take n)) K
   | false => False
  | some _ => match r[j]? with
   | some d => match d.one with
    | true => putD fr dst d K
    | false => False
   | none => False
  | none => False)
/-- An element is written. -/
def storeR (T : Nat → Option TI) (ty : Nat) (v : Operand) (u : Nat) (sz k j : Nat) (rows : List (List D)) (fr : List D) (K : List (List D) → Prop) : Prop :=
 match T ty, (evalD fr v).cellsOf with
 | some ti, some vs => match Nat.beq vs.length ti.cells && Nat.ble (j + vs.length) sz with
  | true => IdxE fun r => SideD (0 ≤ Int.ofNat k ∧ rows[(Int.ofNat k).toNat]? = some r) (K (rows.set k (r.take j ++ vs ++ r.drop (j + vs.length))))
  | false => False
 | _, _ => False
def storeNm (T : Nat → Option TI) (ty u : Nat) (v : Operand) (fr : List D) (K : List D → Prop) : Prop :=
 match fr[u]? with
 | some (.es x sz k j) => match fr[x]? with
  | some (.sl 2 sz' rows) => match Nat.beq sz' sz with
   | true => storeR T ty v x sz k j rows fr fun rows => forceL (fr.set x (.sl 2 sz rows)) K
   | false => False
  | _ => False
 | some (.el x c sz k j) => match fr[x]? with
  | some (.obj cs) => match cs[c]? with
   | some (.sl 2 sz' rows) => match Nat.beq sz' sz with
    | true => storeR T ty v x sz k j rows fr fun rows => putObj fr x (cs.set c (.sl 2 sz rows)) K
    | false => False
   | _ => False
  | _ => False
 | _ => False
/-- What an append takes out of an object's cell. -/
def takeN (fr : List D) : Operand → List D
 | .tmp x => match fr[x]? with
  | some (.alc u off) => match fr[u]? with
   | some (.obj cs) => match cs[off]? with
    | some (.sl (m + 1) sz rows) => (fr.set u (.obj (cs.set off .any))).set x (.sl (m + 1) sz rows)
    | _ => fr
   | _ => fr
  | _ => fr
 | _ => fr
/-- An object's cell takes what a slot owns. -/
def giveD (T : Nat → Option TI) (ty : Nat) (x v : Operand) (fr : List D) (K : List D → Prop) (E : Prop) : Prop :=
 match objAt fr x, rootOf fr v with
 | some (u, off), some s => match fr[u]? with
  | some (.obj cs) => match fr[s]? with
   | some (.sl (m + 1) sz rows) => match T ty with
    | some (.sl _ _ _ _) => match Nat.blt off cs.length with
     | true => forceL ((fr.map (unal s .any)).set s .any) fun fr => putObj (eraC u off 1 fr) u (cs.set off (.sl (m + 1) sz rows)) K
     | false => False
    | _ => False
   | _ => E
  | _ => E
 | _, _ => E
/-- Does the cell own something? -/
def cellN (fr : List D) (u off : Nat) : Bool := match fr[u]? with
 | some (.obj cs) => match cs[off]? with
  | some d => d.owns
  | none => false
 | _ => false
/-- Does the object keep what it is given? -/
def giveM (M : Nat → Bool) (fr : List D) (d : D) (u : Nat) : Bool := match d with
 | .obj _ => M (4000000 + u)
 | .ref x _ => M (4000000 + x)
 | _ => false
/-- One operation, names of elements and of cells among its operands. -/
def stepN (P : Program) (T : Nat → Option TI) (Z : Nat → Option (List Value)) (M : Nat → Bool) (o : Oper) (fr : List D) (K : List D → Prop) : Prop :=
 match o.op with
 | .move (.tmp u) => match fr[u]? with
  | some (.es _ _ _ _) => nameD fr u o.dst K
  | some (.el _ _ _ _ _) => nameD fr u o.dst K
  | some (.alc _ _) => nameD fr u o.dst K
  | _ => stepD P T Z M o fr K
 | .assign (.tmp u) => match fr[u]? with
  | some (.es _ _ _ _) => nameD fr u o.dst K
  | some (.el _ _ _ _ _) => nameD fr u o.dst K
  | some (.alc _ _) => nameD fr u o.dst K
  | _ => stepD P T Z M o fr K
 | .nilCheck (.tmp u) => match fr[u]? with
  | some (.es _ _ _ _) => nameD fr u o.dst K
  | some (.el _ _ _ _ _) => nameD fr u o.dst K
  | _ => stepD P T Z M o fr K
 | .fieldAddr ty (.tmp u) i => match fr[u]? with
  | some (.es x sz k j) => match T ty with
   | some (.st _ fl _) => match fl[i]? with
    | some (off, _ + 1, _) => match o.dst with
     | some t => match Nat.beq t x with
      | false => putD fr (some t) (.es x sz k (j + off)) K
      | true => False
     | none => False
    | _ => False
   | _ => False
  | some (.el x c sz k j) => match T ty with
   | some (.st _ fl _) => match fl[i]? with
    | some (off, _ + 1, _) => putD fr o.dst (.el x c sz k (j + off)) K
    | _ => False
   | _ => False
  | _ => stepD P T Z M o fr K
 | .indexAddr ty (.tmp t) y => match fr[t]? with
  | some (.alc u off) => match fr[u]? with
   | some (.obj cs) => match cs[off]? with
    | some (.sl 2 sz rows) => match T ty, evalD fr y with
     | some (.sl _ sz' _ _), .int _ j => match Nat.beq sz' sz with
      | true => SideD (0 ≤ j ∧ j < rows.length) (putD fr o.dst (.el u off sz j.toNat 0) K)
      | false => False
     | _, _ => False
    | _ => stepD P T Z M o fr K
   | _ => stepD P T Z M o fr K
  | _ => match rootOf fr (.tmp t) with
   | some u => match M (3000000 + u) with
    | true => match fr[u]? with
     | some (.sl 2 sz rows) => match T ty, evalD fr y with
      | some (.sl _ sz' _ _), .int _ j => match Nat.beq sz' sz with
       | true => match o.dst with
        | some d => match Nat.beq d u with
         | false => SideD (0 ≤ j ∧ j < rows.length) (putD fr (some d) (.es u sz j.toNat 0) K)
         | true => False
        | none => False
       | false => False
      | _, _ => False
     | _ => stepD P T Z M o fr K
    | false => stepD P T Z M o fr K
   | none => stepD P T Z M o fr K
 | .load ty (.tmp u) => match fr[u]? with
  | some (.es x sz k j) => match rowsN fr (.es x sz k j) with
   | some (sz', rows) => match Nat.beq sz' sz with
    | true => loadR T ty rows k j o.dst fr K
    | false => False
   | none => False
  | some (.el x c sz k j) => match rowsN fr (.el x c sz k j) with
   | some (sz', rows) => match Nat.beq sz' sz with
    | true => loadR T ty rows k j o.dst fr K
    | false => False
   | none => False
  | some (.ref x off) => match cellN fr x off with
   | true => match T ty with
    | some (.sl _ _ _ _) => putD fr o.dst (.alc x off) K
    | some (.mp _ _ _ _) => putD fr o.dst (.alc x off) K
    | _ => stepD P T Z M o fr K
   | false => stepD P T Z M o fr K
  | some (.obj _) => match cellN fr u 0 with
   | true => match T ty with
    | some (.sl _ _ _ _) => putD fr o.dst (.alc u 0) K
    | some (.mp _ _ _ _) => putD fr o.dst (.alc u 0) K
    | _ => stepD P T Z M o fr K
   | false => stepD P T Z M o fr K
  | _ => stepD P T Z M o fr K
 | .store ty (.tmp u) v => match fr[u]? with
  | some (.es _ _ _ _) => match o.dst with
   | none => forceL (frz1 fr v) fun fr => storeNm T ty u v fr K
   | some _ => False
  | some (.el _ _ _ _ _) => match o.dst with
   | none => forceL (frz1 fr v) fun fr => storeNm T ty u v fr K
   | some _ => False
  | some d => match o.dst with
   | none => match giveM M fr d u with
    | true => giveD T ty (.tmp u) v fr K (stepD P T Z M o fr K)
    | false => stepD P T Z M o fr K
   | some _ => stepD P T Z M o fr K
  | none => stepD P T Z M o fr K
 | .call c => match c.callee with
  | .builtin .append => match c.args.toList with
   | s :: _ => forceL (takeN fr s) fun fr => stepD P T Z M o fr K
   | [] => False
  | _ => stepD P T Z M o fr K
 | _ => stepD P T Z M o fr K
/-- What a guard says. -/
def condOf (all : List Oper) (fr : List D) (j : Nat) (want : Bool) : Option Bool :=
 match all[j]? with
 | some oj => match oj.dst with
  | some t => match fr[t]? with
   | some (.bool b) => match want with
    | true => some b
    | false => some (!b)
   | some (.gd c (.bool b)) => match want with
    | true => some (c && b)
    | false => some (c && !b)
   | _ => none
  | none => none
 | none => none
/-- What the operands of an operation under a guard stand under themselves. -/
def gds (ρ : Operand → D) : List Operand → Option Prop
 | [] => none
 | x :: xs => match ρ x with
  | .gd c _ => match gds ρ xs with
   | none => some (c = true)
   | some p => some (c = true ∧ p)
  | _ => gds ρ xs
/-- Both, under a condition. -/
def under (c : Bool) : Option Prop → Option Prop → Option Prop
 | none, none => none
 | some g, none => some (c = true → g)
 | none, some s => some (c = true → s)
 | some g, some s => some (c = true → g ∧ s)
theorem under_holds {c : Bool} {g s : Option Prop} (h : holds (under c g s)) (hc : c = true) : holds g ∧ holds s := by
 cases g with
 | none => cases s with
  | none => exact ⟨trivial, trivial⟩
  | some s => exact ⟨trivial, h hc⟩
 | some g => cases s with
  | none => exact ⟨h hc, trivial⟩
  | some s => exact h hc
/-- What is read out of an object under a guard. -/
def loadG (T : Nat → Option TI) (ty u off : Nat) (c : Bool) (dst : Option Nat) (fr : List D) (K : List D → Prop) : Prop :=
 match fr[u]? with
 | some (.obj cs) => match T ty with
  | some (.st n _ _) => match Nat.ble (off + n) cs.length && ((cs.drop off).take n).all D.one with
   | true => putD fr dst (.gd c (.agg ((cs.drop off).take n))) K
   | false => False
  | some _ => match cs[off]? with
   | some (.sl 1 sz rows) => putD fr dst (.gd c (.sl 0 sz rows)) K
   | some d => match d.one with
    | true => putD fr dst (.gd c d) K
    | false => False
   | none => False
  | none => False
 | _ => False
/-- What is new and owned, made under a guard: it is frozen at once. -/
def newG (dst : Option Nat) (c : Bool) (d : D) (fr : List D) (K : List D → Prop) : Prop :=
 match d, dst with
 | .sl 2 sz rows, some t => match fr[t]? with
  | some d0 => match d0.isObj with
   | false => forceL ((fr.map (unal t .any)).set t .any) fun fr => putD fr (some t) (.gd c (.sl 0 sz rows)) K
   | true => False
  | none => False
 | _, _ => False
/-- One operation that is carried out if its guard says so. -/
def gstepD (P : Program) (T : Nat → Option TI) (Z : Nat → Option (List Value)) (o : Oper) (c : Bool) (fr : List D) (K : List D → Prop) : Prop :=
 match o.op with
 | .pick cc x y => pickD (strip (evalD fr cc)) x y (evalD fr) fun s d => andO (under c (gds (evalD fr) [cc]) s) (putD fr o.dst (.gd c d) K)
 | .fieldAddr ty (.tmp u) i => match fr[u]? with
  | some (.obj _) => match T ty with
   | some (.st _ fl _) => match fl[i]? with
    | some (off, _ + 1, _) => putD fr o.dst (.gref c u off) K
    | _ => False
   | _ => False
  | _ => opD P T Z (fun x => strip (evalD fr x)) (.fieldAddr ty (.tmp u) i) fun s d => andO (under c (gds (evalD fr) [.tmp u]) s) (match d.passes with
   | true => putD fr o.dst (.gd c d) K
   | false => newG o.dst c d fr K)
 | .load ty (.tmp x) => match fr[x]? with
  | some (.gref c' u off) => SideD (c = true → c' = true) (loadG T ty u off c o.dst fr K)
  | some (.obj _) => loadG T ty x 0 c o.dst fr K
  | _ => opD P T Z (fun x => strip (evalD fr x)) (.load ty (.tmp x)) fun s d => andO (under c (gds (evalD fr) [.tmp x]) s) (match d.passes with
   | true => putD fr o.dst (.gd c d) K
   | false => newG o.dst c d fr K)
 | op => opD P T Z (fun x => strip (evalD fr x)) op fun s d => andO (under c (gds (evalD fr) op.operands.toList) s) (match d.passes with
  | true => putD fr o.dst (.gd c d) K
  | false => newG o.dst c d fr K)
/-- A variable that is written once, where it is made. -/
def pairD (T : Nat → Option TI) (Z : Nat → Option (List Value)) (o o2 : Oper) (ty : Nat) (fr : List D) (K : List D → Prop) : Prop :=
 match o.dst, o2.op, o2.dst, o2.guard with
 | some t, .store ty2 (.tmp t2) v, none, none => match Nat.beq t t2 && Nat.beq ty ty2 with
  | true => match T ty, Z ty with
   | some ti, some zc => forceL (frz1 fr v) fun fr => match v with
    | .tmp tv => match Nat.beq tv t with
     | false => match (evalD fr (.tmp tv)).cellsOf with
      | some vs => match Nat.beq vs.length ti.cells && Nat.beq zc.length ti.cells with
       | true => putD fr (some t) (.ptr vs) K
       | false => False
      | none => False
     | true => False
    | .const c => match (evalD fr (.const c)).cellsOf with
     | some vs => match Nat.beq vs.length ti.cells && Nat.beq zc.length ti.cells with
      | true => putD fr (some t) (.ptr vs) K
      | false => False
     | none => False
    | _ => False
   | _, _ => False
  | false => False
 | _, _, _, _ => False
def isFrzAlloc (M : Nat → Bool) (o : Oper) : Option Nat :=
 match o.op with
 | .alloc ty => match o.dst with
  | some t => match M t with
   | true => none
   | false => some ty
  | none => none
 | _ => none
/-- The elements of an own slice that is read under a guard stay. -/
def downC1 (u off : Nat) (fr : List D) : List D :=
 match fr[u]? with
 | some (.obj cs) => match cs[off]? with
  | some (.sl 2 sz rows) => fr.set u (.obj (cs.set off (.sl 1 sz rows)))
  | _ => fr
 | _ => fr
def prepG (o : Oper) (fr : List D) : List D :=
 match o.op with
 | .load _ (.tmp x) => match fr[x]? with
  | some (.gref _ u off) => downC1 u off fr
  | some (.obj _) => downC1 x 0 fr
  | _ => fr
 | _ => fr
def vcOps (P : Program) (T : Nat → Option TI) (Z : Nat → Option (List Value)) (M : Nat → Bool) (all : List Oper) : List Oper → List D → (List D → Prop) → Prop
 | [], fr, K => K fr
 | [o], fr, K => match o.guard with
  | none => stepN P T Z M o fr K
  | some (j, want) => match condOf all fr j want with
   | some c => forceL (prepG o fr) fun fr => gstepD P T Z o c fr K
   | none => False
 | o :: o2 :: r, fr, K => match o.guard with
  | none => match isFrzAlloc M o with
   | some ty => pairD T Z o o2 ty fr fun fr' => vcOps P T Z M all r fr' K
   | none => stepN P T Z M o fr fun fr' => vcOps P T Z M all (o2 :: r) fr' K
  | some (j, want) => match condOf all fr j want with
   | some c => forceL (prepG o fr) fun fr => gstepD P T Z o c fr fun fr' => vcOps P T Z M all (o2 :: r) fr' K
   | none => False

section
variable {P : Program} {T : Nat → Option TI} {Z : Nat → Option (List Value)} {M : Nat → Bool}
theorem FR.evalRef {S : Sig} {w : World} {a : Act} {fr : List D} (h : FR S w a fr) (x : Operand) : RefOk fr (evalD fr x) := by
 cases x with
 | tmp t =>
  unfold evalD
  simp only
  cases hd : fr[t]? with
  | none => exact fun t ht => by cases ht
  | some d =>
   obtain ⟨v, hv, hr⟩ := h.at hd
   cases d with
   | al u =>
    obtain ⟨h1, d', h2, h3, _⟩ := hr
    simp only [h2, Option.getD_some]
    exact ((h.slot u d' v h2 h1).rep (D.nm_owns h3)).2
   | alc u off =>
    obtain ⟨⟨⟨cs, h1⟩, _⟩, _⟩ := hr
    simp only [h1]
    cases hc : cs[off]? with
    | none => exact fun t ht => by cases ht
    | some d =>
     obtain ⟨v', hv', hr'⟩ := h.at h1
     exact fun t ht => hr'.2 t (.obj hc ht)
   | el u off sz k j => exact fun t ht => by cases ht
   | es u sz k j => exact fun t ht => by cases ht
   | _ => exact hr.2
 | const v =>
  unfold evalD
  cases v with
  | agg cs => exact fun t ht => by cases ht
  | _ => exact fun t ht => ((ofVal_rep (lim := fun _ => none) (w := w) _ (by intro cs hc; cases hc)).men ht).elim
 | global g => exact fun t ht => by cases ht
 | func f => exact fun t ht => by cases ht with | fn h => simp at h
/-- The place of a slot, or none. -/
def dstPlace : Option Nat → Place
 | some t => .slot t
 | none => ⟨1, []⟩
theorem putD_sound {S : Sig} {w : World} {a : Act} {fr : List D} {dst : Option Nat} {v : Value} {d : D} {K : List D → Prop} (h : FR S w a fr) (hr : Rep S w (dstPlace dst) v d) (hf : RefOk fr d) (hp : putD fr dst d K) : ∃ fr', K fr' ∧ FR S w (a.put dst v) fr' := by
 cases dst with
 | none => exact ⟨fr, hp, h⟩
 | some t =>
  simp only [putD] at hp
  split at hp
  ·rename_i d0 h0
   split at hp
   ·rename_i ho
    rw [force_eq, forceL_eq] at hp
    exact ⟨_, hp, h.put (PT.refl h.wf) h0 ho hr hf⟩
   ·split at hp
    ·rename_i hn
     rw [force_eq, forceL_eq] at hp
     exact ⟨_, hp, h.putOwn h0 hn hr hf⟩
    ·exact hp.elim
  ·exact hp.elim
/-- A name goes into its slot. -/
theorem putNm_sound {S : Sig} {w : World} {a : Act} {fr : List D} {dst : Option Nat} {v : Value} {d : D} {K : List D → Prop} (h : FR S w a fr) (hd : d.isNm = true) (hsl : ∀ t, dst = some t → SlotRep S w a fr t v d) (hp : putD fr dst d K) : ∃ fr', K fr' ∧ FR S w (a.put dst v) fr' := by
 cases dst with
 | none => exact ⟨fr, hp, h⟩
 | some t =>
  simp only [putD] at hp
  split at hp
  ·rename_i d0 h0
   split at hp
   ·rename_i ho
    rw [force_eq, forceL_eq] at hp
    have := h.putNm h0 (by cases d0 <;> first | rfl | cases ho) hd (hsl t rfl)
    rw [h.unal_none h0 ho] at this
    exact ⟨_, hp, this⟩
   ·split at hp
    ·rename_i hn
     rw [force_eq, forceL_eq] at hp
     exact ⟨_, hp, h.putNm h0 hn hd (hsl t rfl)⟩
    ·exact hp.elim
  ·exact hp.elim
theorem down1_sound {S : Sig} {w : World} {a : Act} {fr : List D} (h : FR S w a fr) (x : Operand) : ∃ S', Trans S w S' w ∧ FR S' w a (down1 fr x) := by
 unfold down1
 split
 ·split
  ·split
   ·rename_i hu; exact h.down hu
   ·exact ⟨S, Trans.refl S w, h⟩
  ·rename_i ht; exact h.down ht
  ·split
   ·rename_i hd
    split
    ·rename_i hc; exact h.downC hd hc
    ·exact ⟨S, Trans.refl S w, h⟩
   ·exact ⟨S, Trans.refl S w, h⟩
  ·exact ⟨S, Trans.refl S w, h⟩
 ·exact ⟨S, Trans.refl S w, h⟩
theorem frz1_sound {S : Sig} {w : World} {a : Act} {fr : List D} (h : FR S w a fr) (x : Operand) : ∃ S', Trans S w S' w ∧ FR S' w a (frz1 fr x) := by
 unfold frz1
 split
 ·split
  ·split
   ·rename_i hu; exact h.freeze hu
   ·exact ⟨S, Trans.refl S w, h⟩
  ·rename_i ht; exact h.freeze ht
  ·split
   ·rename_i hd
    split
    ·rename_i hc; exact h.freezeC hd hc
    ·exact ⟨S, Trans.refl S w, h⟩
   ·exact ⟨S, Trans.refl S w, h⟩
  ·exact ⟨S, Trans.refl S w, h⟩
 ·exact ⟨S, Trans.refl S w, h⟩
theorem fold_sound {α : Type} {w : World} {a : Act} {f : List D → α → List D} (hf : ∀ S fr x, FR S w a fr → ∃ S', Trans S w S' w ∧ FR S' w a (f fr x)) : ∀ (l : List α) (S : Sig) (fr : List D), FR S w a fr → ∃ S', Trans S w S' w ∧ FR S' w a (l.foldl f fr)
 | [], S, fr, h => ⟨S, Trans.refl S w, h⟩
 | x :: l, S, fr, h => by
  obtain ⟨S1, t1, h1⟩ := hf S fr x h
  obtain ⟨S2, t2, h2⟩ := fold_sound hf l S1 _ h1
  exact ⟨S2, t1.trans t2, h2⟩
theorem prep_sound {S : Sig} {w : World} {a : Act} {fr : List D} (h : FR S w a fr) (o : Op) : ∃ S', Trans S w S' w ∧ FR S' w a (prep o fr) := by
 unfold prep
 split
 ·exact down1_sound h _
 ·split
  ·exact fold_sound (fun S fr x h => down1_sound h x) _ S fr h
  ·exact ⟨S, Trans.refl S w, h⟩
 ·exact frz1_sound h _
 ·exact frz1_sound h _
 ·exact fold_sound (fun S fr x h => frz1_sound h _) _ S fr h
 ·exact fold_sound (fun S fr x h => frz1_sound h _) _ S fr h
 ·exact ⟨S, Trans.refl S w, h⟩
/-- From the data to the machine: one operation. -/
def StepOk (P : Program) (S : Sig) (w : World) (a : Act) (o : Oper) (K : List D → Prop) : Prop :=
 ∀ (K' : Act → World → Prop) (Q : Exit → Act → World → Prop), (∀ fr' S' w' a', K fr' → Trans S w S' w' → FR S' w' a' fr' → K' a' w') → o.wp P a w K' Q
theorem StepOk.ghost {S S1 : Sig} {w : World} {a : Act} {o : Oper} {K : List D → Prop} (ht : Trans S w S1 w) (h : StepOk P S1 w a o K) : StepOk P S w a o K :=
 fun K' Q hK => h K' Q fun fr' S' w' a' k t f => hK fr' S' w' a' k (ht.trans t) f
theorem StepOk.mono {S : Sig} {w : World} {a : Act} {o : Oper} {K K2 : List D → Prop} (h : StepOk P S w a o K) (hk : ∀ {fr' S' w' a'}, K fr' → FR S' w' a' fr' → ∃ fr'' S'', K2 fr'' ∧ Trans S' w' S'' w' ∧ FR S'' w' a' fr'') : StepOk P S w a o K2 :=
 fun K' Q hK => h K' Q fun fr' S' w' a' k t f => by
  obtain ⟨fr'', S'', k2, t2, f2⟩ := hk k f
  exact hK fr'' S'' w' a' k2 (t.trans t2) f2
theorem pureD_sound (hT : TOk P T Z) {S : Sig} {w : World} {a : Act} {fr : List D} {o : Oper} {K : List D → Prop} (h : FR S w a fr) (hs : pureD P T Z o fr K) : StepOk P S w a o K := by
 intro K' Q hK
 obtain ⟨dst, op, ty, pos, after, guard⟩ := o
 obtain ⟨s, d, h12, h3⟩ := opD_sound (dst := dst) (ty := ty) (pos := pos) (after := after) (guard := guard) hT hs
 obtain ⟨h1, h2⟩ := andO_iff.1 h12
 refine h3 h1 S w a (dstPlace dst) h.wf (fun x _ => h.eval x) K' Q fun v S' w' hp hr hm => ?_
 have hrf : RefOk fr d := fun t ht => by
  obtain ⟨x, _, hx⟩ := hm t ht
  exact h.evalRef x t hx
 obtain ⟨fr', k1, k2⟩ := putD_sound (h.drop hp) hr hrf h2
 exact hK fr' S' w' _ k1 hp.trans k2
theorem pick_run {w : World} {a : Act} {c x y : Operand} {p : Bool} {K' : Act → World → Prop} {Q : Exit → Act → World → Prop} {dst : Option Tmp} {ty : TypeId} {pos : String} {after : Array Edge} {guard : Option (Nat × Bool)} (hc : a.eval c = .bool p) (hk : K' (a.put dst (if p then a.eval x else a.eval y)) w) : (Oper.mk dst (.pick c x y) ty pos after guard).wp P a w K' Q := by
 unfold Oper.wp
 rw [execOp_pick _ _ _ _ _ _ _ _ _ p hc]
 exact hk
/-- What a choice gives. -/
theorem pickR_sound {S : Sig} {w : World} {a : Act} {dc : D} {c x y : Operand} {ρ : Operand → D} {s : Option Prop} {r : Bool} (hc : ∃ q, Rep S w q (a.eval c) dc) (hrx : ∃ q, Rep S w q (a.eval x) (ρ x)) (hry : ∃ q, Rep S w q (a.eval y) (ρ y)) (h : pickR dc x y ρ = some (s, r)) (hs : holds s) : ∃ p, a.eval c = .bool p ∧ (if p then a.eval x else a.eval y) = .bool r := by
 have gdv : ∀ {z : Operand} {p' q : Bool}, (∃ q, Rep S w q (a.eval z) (ρ z)) → ρ z = .gd p' (.bool q) → p' = true → a.eval z = .bool q := fun {z p' q} hr hz hp => by
  obtain ⟨qq, hq⟩ := hr
  rw [hz] at hq
  have := (hq.gd_inv.1 hp)
  exact (Rep.fz (p := .dead) this).bool_inv
 have bv : ∀ {z : Operand} {q : Bool}, (∃ q, Rep S w q (a.eval z) (ρ z)) → ρ z = .bool q → a.eval z = .bool q := fun {z q} hr hz => by
  obtain ⟨qq, hq⟩ := hr
  rw [hz] at hq
  exact hq.bool_inv
 obtain ⟨q, hq⟩ := hc
 unfold pickR at h
 split at h
 ·rename_i p
  refine ⟨p, hq.bool_inv, ?_⟩
  split at h
  ·split at h
   ·rename_i hx
    cases h
    cases p with
    | true => simp only [if_true, Bool.true_and]; exact gdv hrx hx (hs rfl)
    | false => rfl
   ·rename_i hx
    cases h
    cases p with
    | true => simp only [if_true, Bool.true_and]; exact bv hrx hx
    | false => rfl
   ·cases h
  ·split at h
   ·split at h
    ·rename_i hy
     cases h
     cases p with
     | false => simp only [Bool.false_or]; exact gdv hry hy (hs rfl)
     | true => rfl
    ·rename_i hy
     cases h
     cases p with
     | false => simp only [Bool.false_or]; exact bv hry hy
     | true => rfl
    ·cases h
   ·cases h
 ·cases h
theorem no_men_bool {b : Bool} {fr : List D} : RefOk fr (.bool b) := fun t ht => by cases ht
theorem take_sound {S : Sig} {w : World} {a : Act} {fr : List D} {u0 u : Nat} {dst : Option Nat} {ty : TypeId} {pos : String} {after : Array Edge} {guard : Option (Nat × Bool)} {K : List D → Prop} (h : FR S w a fr) (hu : ∀ v, a.tmps[u]? = some v → a.eval (.tmp u0) = v) (hs : takeD fr u dst K) : StepOk P S w a (Oper.mk dst (.assign (.tmp u0)) ty pos after guard) K := by
 intro K' Q hK
 unfold takeD at hs
 split at hs
 ·rename_i m sz rows hd
  rw [forceL_eq] at hs
  obtain ⟨S', v, t1, t2, t3, t4⟩ := h.take (dstPlace dst) hd
  obtain ⟨fr', k1, k2⟩ := putD_sound t3 t4 (fun t ht => (no_men_sl ht).elim) hs
  refine r_assign (v := v) (hu v t2) (hK fr' S' w _ k1 t1 k2)
 ·rename_i kd es hd
  rw [forceL_eq] at hs
  obtain ⟨S', v, t1, t2, t3, t4⟩ := h.takeMp (dstPlace dst) hd
  obtain ⟨fr', k1, k2⟩ := putD_sound t3 t4 (fun t ht => by cases ht) hs
  refine r_assign (v := v) (hu v t2) (hK fr' S' w _ k1 t1 k2)
 ·exact hs.elim
theorem rows_rep {S : Sig} {w : World} {q : Place} {v : Value} {sz s2 : Nat} {d : D} {rows : List (List D)} (h : Rep S w q v d) (hr : rowsOf sz d = some (s2, rows)) : ∃ m, Rep S w q v (.sl m s2 rows) := by
 unfold rowsOf at hr
 split at hr
 ·cases hr
  rw [h.nil_inv]
  exact ⟨0, .fz (.slNil 0 sz)⟩
 ·cases hr
  exact ⟨_, h⟩
 ·cases hr
theorem root_eval {S : Sig} {w : World} {a : Act} {fr : List D} (h : FR S w a fr) {s : Operand} {u : Nat} (hr : rootOf fr s = some u) : a.tmps[u]? = some (a.eval s) := by
 unfold rootOf at hr
 split at hr
 ·rename_i t
  have ev : ∀ v, a.tmps[t]? = some v → a.eval (.tmp t) = v := fun v hv => by simp [Act.eval, Array.getD_eq_getD_getElem?, hv]
  split at hr
  ·rename_i hd
   cases hr
   obtain ⟨v, hv, hs⟩ := h.at hd
   rw [ev v hv]
   exact hs.1
  ·rename_i hd
   cases hr
   obtain ⟨v, hv, hs⟩ := h.at hd
   rw [ev v hv]
   exact hv
  ·rename_i hd
   cases hr
   obtain ⟨v, hv, hs⟩ := h.at hd
   rw [ev v hv]
   exact hv
  ·cases hr
 ·cases hr
theorem upd_sound (hT : TOk P T Z) {S : Sig} {w : World} {a : Act} {fr : List D} {ty0 : Nat} {m k v : Operand} {dst : Option Nat} {ty : TypeId} {pos : String} {after : Array Edge} {guard : Option (Nat × Bool)} {K : List D → Prop} (h : FR S w a fr) (hs : updD T ty0 m k v dst fr K) : StepOk P S w a (Oper.mk dst (.mapUpdate ty0 m k v) ty pos after guard) K := by
 intro K' Q hK
 unfold updD at hs
 split at hs
 ·exact hs.elim
 ·split at hs
  ·rename_i kt et kd z u ht hu
   haveI := (hT.ty _ _ ht).1
   have hev := root_eval h hu
   split at hs
   ·rename_i kd' es hd
    split at hs
    ·rename_i kv vv hk hv
     split at hs
     ·rename_i hb
      simp only [Bool.and_eq_true] at hb
      obtain rfl := sameKD_eq hb.1
      rw [forceL_eq] at hs
      obtain ⟨v0, hv0, hsl⟩ := h.at hd
      obtain ⟨b, clock, ents, rfl, hown, hh, he, hf⟩ := hsl.1.mp_inv
      have hm : a.eval m = .map (some b) := Option.some.inj (hev.symm.trans hv0)
      obtain ⟨q1, r1⟩ := h.eval k
      obtain ⟨q2, r2⟩ := h.eval v
      refine r_mapUpdate hm hh he hf (keyV_eq r1 hk) hb.2 (keyV_eq r2 hv) fun ents' clock' he' => ?_
      obtain ⟨t1, f1⟩ := h.setMap (clock' := clock') hd hv0 hown hh he' (putV_fit hb.2 hf)
      exact hK _ S _ a hs t1 f1
     ·exact hs.elim
    ·exact hs.elim
   ·exact hs.elim
  ·exact hs.elim
theorem del_sound (hT : TOk P T Z) {S : Sig} {w : World} {a : Act} {fr : List D} {c : Call} {dst : Option Nat} {ty : TypeId} {pos : String} {after : Array Edge} {guard : Option (Nat × Bool)} {K : List D → Prop} (h : FR S w a fr) (hc : c.callee = .builtin .delete) (hs : delD T c dst fr K) : StepOk P S w a (Oper.mk dst (.call c) ty pos after guard) K := by
 intro K' Q hK
 obtain ⟨callee, args, argTypes⟩ := c
 simp only at hc
 subst hc
 unfold delD at hs
 simp only at hs
 split at hs
 ·rename_i m k ty0 kt0 h1 h2
  obtain rfl := arr2 h1
  obtain rfl := arr2 h2
  split at hs
  ·rename_i kt et kd z u ht hu
   haveI := (hT.ty _ _ ht).1
   have hev := root_eval h hu
   split at hs
   ·rename_i hkt
    obtain rfl := Nat.eq_of_beq_eq_true hkt
    split at hs
    ·rename_i kd' es hd
     split at hs
     ·rename_i kv hk
      split at hs
      ·rename_i hb
       simp only [Bool.and_eq_true] at hb
       obtain rfl := sameKD_eq hb.1
       rw [forceL_eq] at hs
       obtain ⟨v0, hv0, hsl⟩ := h.at hd
       obtain ⟨b, clock, ents, rfl, hown, hh, he, hf⟩ := hsl.1.mp_inv
       have hm : a.eval m = .map (some b) := Option.some.inj (hev.symm.trans hv0)
       obtain ⟨q1, r1⟩ := h.eval k
       refine r_delete rfl hm hh he hf (keyV_eq r1 hk) hb.2 fun ents' clock' he' => ?_
       obtain ⟨t1, f1⟩ := h.setMap (clock' := clock') hd hv0 hown hh he' (delV_fit hf)
       exact hK _ S _ a hs t1 f1
      ·exact hs.elim
     ·exact hs.elim
    ·exact hs.elim
   ·exact hs.elim
  ·exact hs.elim
 ·exact hs.elim
theorem append_sound (hT : TOk P T Z) {S : Sig} {w : World} {a : Act} {fr : List D} {c : Call} {dst : Option Nat} {ty : TypeId} {pos : String} {after : Array Edge} {guard : Option (Nat × Bool)} {K : List D → Prop} (h : FR S w a fr) (hc : c.callee = .builtin .append) (hs : appendD T c dst fr K) : StepOk P S w a (Oper.mk dst (.call c) ty pos after guard) K := by
 intro K' Q hK
 obtain ⟨callee, args, argTypes⟩ := c
 simp only at hc
 subst hc
 unfold appendD at hs
 simp only at hs
 split at hs
 ·rename_i s x t t' h1 h2
  obtain rfl := arr2 h1
  obtain rfl := arr2 h2
  split at hs
  ·rename_i e sz bytes zc ht
   obtain ⟨i1, i2, i3, i4, i5⟩ := hT.ty _ _ ht
   haveI := i1; haveI := i4
   split at hs
   ·rename_i hb
    simp only [Bool.and_eq_true] at hb
    obtain rfl : t = t' := Nat.eq_of_beq_eq_true hb.1
    have hby := Nat.le_of_ble_eq_true hb.2
    split at hs
    ·rename_i s2 rows2 hx
     obtain ⟨q, hq⟩ := h.eval x
     obtain ⟨m2, hq2⟩ := rows_rep hq hx
     split at hs
     ·rename_i u hu
      have hev := root_eval h hu
      split at hs
      ·rename_i hd
       obtain ⟨⟨rfl, rfl, hl⟩, hput⟩ := hs
       rw [forceL_eq] at hput
       refine append_own (p := dstPlace dst) h hd hev hq2 hl hby (.inl rfl) fun v S' w' t1 t2 t3 => ?_
       obtain ⟨fr', k1, k2⟩ := putD_sound t2 t3 (fun t ht => (no_men_sl ht).elim) hput
       exact hK fr' S' w' _ k1 t1 k2
      ·rename_i hd
       obtain ⟨⟨rfl, rfl, hl⟩, hput⟩ := hs
       rw [forceL_eq] at hput
       refine append_own (p := dstPlace dst) h hd hev hq2 hl hby (.inr rfl) fun v S' w' t1 t2 t3 => ?_
       obtain ⟨fr', k1, k2⟩ := putD_sound t2 t3 (fun t ht => (no_men_sl ht).elim) hput
       exact hK fr' S' w' _ k1 t1 k2
      ·exact hs.elim
     ·split at hs
      ·rename_i hnil
       obtain ⟨⟨rfl, hl⟩, hput⟩ := hs
       obtain ⟨q', hq'⟩ := h.eval s
       rw [hnil] at hq'
       refine append_nil (p := dstPlace dst) h.wf hq'.nil_inv hq2 hl hby (.inr rfl) fun v S' w' hp hr => ?_
       obtain ⟨fr', k1, k2⟩ := putD_sound (h.drop hp) hr (fun t ht => (no_men_sl ht).elim) hput
       exact hK fr' S' w' _ k1 hp.trans k2
      ·exact hs.elim
    ·exact hs.elim
   ·split at hs
    ·rename_i txt ht' hx hb
     simp only [Bool.and_eq_true] at hb
     obtain rfl := Nat.eq_of_beq_eq_true hb.1
     have hby := Nat.le_of_ble_eq_true hb.2
     haveI : TStr P t' := (hT.ty _ _ ht').1
     obtain ⟨q, hq⟩ := h.eval x
     rw [hx] at hq
     have hxs := hq.str_inv
     split at hs
     ·rename_i u hu
      have hev := root_eval h hu
      split at hs
      ·rename_i hd
       obtain ⟨⟨rfl, hl⟩, hput⟩ := hs
       rw [forceL_eq] at hput
       refine append_own_str (p := dstPlace dst) h hd hev hxs hl hby (.inl rfl) fun v S' w' t1 t2 t3 => ?_
       obtain ⟨fr', k1, k2⟩ := putD_sound t2 t3 (fun t ht => (no_men_sl ht).elim) hput
       exact hK fr' S' w' _ k1 t1 k2
      ·rename_i hd
       obtain ⟨⟨rfl, hl⟩, hput⟩ := hs
       rw [forceL_eq] at hput
       refine append_own_str (p := dstPlace dst) h hd hev hxs hl hby (.inr rfl) fun v S' w' t1 t2 t3 => ?_
       obtain ⟨fr', k1, k2⟩ := putD_sound t2 t3 (fun t ht => (no_men_sl ht).elim) hput
       exact hK fr' S' w' _ k1 t1 k2
      ·exact hs.elim
     ·split at hs
      ·rename_i hnil
       obtain ⟨hl, hput⟩ := hs
       obtain ⟨q', hq'⟩ := h.eval s
       rw [hnil] at hq'
       refine append_nil_str (p := dstPlace dst) h.wf hq'.nil_inv hxs hl hby (.inr rfl) fun v S' w' hp hr => ?_
       obtain ⟨fr', k1, k2⟩ := putD_sound (h.drop hp) hr (fun t ht => (no_men_sl ht).elim) hput
       exact hK fr' S' w' _ k1 hp.trans k2
      ·exact hs.elim
    ·exact hs.elim
  ·exact hs.elim
 ·exact hs.elim
/-- An alias is noted. -/
theorem alias_sound {S : Sig} {w : World} {a : Act} {fr : List D} {u0 u : Nat} {dst : Option Nat} {ty : TypeId} {pos : String} {after : Array Edge} {guard : Option (Nat × Bool)} {K : List D → Prop} {d : D} (h : FR S w a fr) (hd : fr[u]? = some d) (ho : d.owns = true) (hu : ∀ v, a.tmps[u]? = some v → a.eval (.tmp u0) = v)
  (hs : match dst with | some t => (match Nat.beq t u with | false => putD fr (some t) (.al u) K | true => False) | none => K fr) : StepOk P S w a (Oper.mk dst (.move (.tmp u0)) ty pos after guard) K := by
 intro K' Q hK
 obtain ⟨v, hv, hrep⟩ := h.at hd
 cases dst with
 | none => exact r_move (v := v) (hu v hv) (hK fr S w _ hs (Trans.refl S w) h)
 | some t =>
  simp only at hs
  split at hs
  ·rename_i hne
   have hne' : t ≠ u := fun e => by subst e; simp at hne
   obtain ⟨fr', k1, k2⟩ := putNm_sound (dst := some t) (v := v) (d := .al u) h rfl (fun t' e => by cases e; exact ⟨hv, d, hd, ho, Ne.symm hne'⟩) hs
   exact r_move (v := v) (hu v hv) (hK fr' S w _ k1 (Trans.refl S w) k2)
  ·exact hs.elim
theorem ref_rep {S : Sig} {w : World} {a : Act} {fr : List D} (h : FR S w a fr) {u : Nat} {cs : List D} (hd : fr[u]? = some (.obj cs)) (off : Nat) : (∀ p, Rep S w p (.pointer (some ⟨S.loc (u + 2), off, none⟩)) (.ref u off)) ∧ RefOk fr (.ref u off) ∧ a.tmps[u]? = some (.pointer (some ⟨S.loc (u + 2), 0, none⟩)) := by
 obtain ⟨v, hv, hs⟩ := h.at hd
 obtain ⟨b, cur, e, rfl, hb, hloc, _⟩ := hs.1.obj_inv
 refine ⟨fun p => .ref (by rw [hloc]; exact hb), fun t ht => ?_, by rw [hv, hloc]⟩
 cases ht
 exact ⟨cs, hd⟩
theorem refD_eval {S : Sig} {w : World} {a : Act} {fr : List D} (h : FR S w a fr) (x : Operand) : (∃ q, Rep S w q (a.eval x) (refD fr x)) ∧ RefOk fr (refD fr x) := by
 unfold refD
 split
 ·rename_i t
  split
  ·rename_i cs hd
   obtain ⟨r1, r2, r3⟩ := ref_rep h hd 0
   have : a.eval (.tmp t) = .pointer (some ⟨S.loc (t + 2), 0, none⟩) := by simp [Act.eval, Array.getD_eq_getD_getElem?, r3]
   rw [this]
   exact ⟨⟨.dead, r1 _⟩, r2⟩
  ·exact ⟨h.eval _, fun t ht => h.evalRef _ t ht⟩
 ·exact ⟨h.eval _, fun t ht => h.evalRef _ t ht⟩
theorem refOp_sound (hT : TOk P T Z) {S : Sig} {w : World} {a : Act} {fr : List D} {o : Oper} {K : List D → Prop} (h : FR S w a fr) (hs : opD P T Z (refD fr) o.op fun s d => andO s (putD fr o.dst d K)) : StepOk P S w a o K := by
 intro K' Q hK
 obtain ⟨dst, op, ty, pos, after, guard⟩ := o
 obtain ⟨s, d, h12, h3⟩ := opD_sound (dst := dst) (ty := ty) (pos := pos) (after := after) (guard := guard) hT hs
 obtain ⟨h1, h2⟩ := andO_iff.1 h12
 refine h3 h1 S w a (dstPlace dst) h.wf (fun x _ => (refD_eval h x).1) K' Q fun v S' w' hp hr hm => ?_
 have hrf : RefOk fr d := fun t ht => by
  obtain ⟨x, _, hx⟩ := hm t ht
  exact (refD_eval h x).2 t hx
 obtain ⟨fr', k1, k2⟩ := putD_sound (h.drop hp) hr hrf h2
 exact hK fr' S' w' _ k1 hp.trans k2
theorem frzC1_sound {S : Sig} {w : World} {a : Act} {fr : List D} (h : FR S w a fr) (u off : Nat) : ∃ S', Trans S w S' w ∧ FR S' w a (frzC1 u off fr) := by
 unfold frzC1
 split
 ·rename_i hd
  split
  ·rename_i hc; exact h.freezeC hd hc
  ·exact ⟨S, Trans.refl S w, h⟩
 ·exact ⟨S, Trans.refl S w, h⟩
theorem frzCs_sound {w : World} {a : Act} (u off : Nat) : ∀ (n : Nat) {S : Sig} {fr : List D}, FR S w a fr → ∃ S', Trans S w S' w ∧ FR S' w a (frzCs u off n fr)
 | 0, S, fr, h => ⟨S, Trans.refl S w, h⟩
 | n + 1, S, fr, h => by
  obtain ⟨S1, t1, h1⟩ := frzCs_sound u off n h
  obtain ⟨S2, t2, h2⟩ := frzC1_sound h1 u (off + n)
  exact ⟨S2, t1.trans t2, h2⟩
theorem frzL_sound {S : Sig} {w : World} {a : Act} {fr : List D} (T : Nat → Option TI) (ty : Nat) (h : FR S w a fr) (u off : Nat) : ∃ S', Trans S w S' w ∧ FR S' w a (frzL T ty u off fr) := by
 unfold frzL
 split
 ·exact frzCs_sound u off _ h
 ·exact ⟨S, Trans.refl S w, h⟩
theorem objAt_set {fr : List D} {u0 : Nat} {cs cs' : List D} (hd : fr[u0]? = some (.obj cs)) (x : Operand) : objAt (fr.set u0 (.obj cs')) x = objAt fr x := by
 unfold objAt
 cases x with
 | tmp t =>
  simp only
  have hlt : u0 < fr.length := (List.getElem?_eq_some_iff.1 hd).1
  by_cases e : t = u0
  ·subst e
   rw [List.getElem?_set_self hlt, hd]
  ·rw [List.getElem?_set_ne (Ne.symm e)]
 | _ => rfl
theorem objAt_frzC1 (u off : Nat) (fr : List D) (x : Operand) : objAt (frzC1 u off fr) x = objAt fr x := by
 unfold frzC1
 split
 ·rename_i hd
  split
  ·exact objAt_set hd x
  ·rfl
 ·rfl
theorem objAt_frzCs (u off : Nat) (x : Operand) : ∀ (n : Nat) (fr : List D), objAt (frzCs u off n fr) x = objAt fr x
 | 0, _ => rfl
 | n + 1, fr => by rw [frzCs, objAt_frzC1, objAt_frzCs u off x n fr]
theorem objAt_frzL (T : Nat → Option TI) (ty u off : Nat) (fr : List D) (x : Operand) : objAt (frzL T ty u off fr) x = objAt fr x := by
 unfold frzL
 split
 ·exact objAt_frzCs u off x _ fr
 ·rfl
theorem loadD_sound (hT : TOk P T Z) {S : Sig} {w : World} {a : Act} {fr : List D} {ty0 u off : Nat} {x : Operand} {dst : Option Nat} {ty : TypeId} {pos : String} {after : Array Edge} {guard : Option (Nat × Bool)} {K : List D → Prop} (h : FR S w a fr) (hx : objAt fr x = some (u, off)) (hs : loadD T ty0 u off dst fr K) : StepOk P S w a (Oper.mk dst (.load ty0 x) ty pos after guard) K := by
 intro K' Q hK
 obtain ⟨cs0, hd0, hev⟩ := h.objAt hx
 obtain ⟨cv, hcv⟩ := h.loadObj hd0
 unfold loadD at hs
 split at hs
 ·rename_i cs hd
  rw [hd0] at hd
  obtain rfl : cs = cs0 := (D.obj.inj (Option.some.inj hd)).symm
  split at hs
  ·rename_i n fl ks ht
   haveI := (hT.ty _ _ ht).1
   split at hs
   ·rename_i hb
    simp only [Bool.and_eq_true] at hb
    have hle := Nat.le_of_ble_eq_true hb.1
    have hcell : ∀ j, j < n → ∃ d, ((cs.drop off).take n)[j]? = some d ∧ w.cell? ⟨S.loc (u + 2), off + j, none⟩ = some (cv (off + j)) ∧ (cv (off + j)).oneCell' = true ∧ Fz S.lim w (cv (off + j)) d := fun j hj => by
     have hjl : off + j < cs.length := by omega
     have hg : ((cs.drop off).take n)[j]? = some cs[off + j] := by rw [List.getElem?_take, if_pos hj, List.getElem?_drop, List.getElem?_eq_getElem hjl]
     obtain ⟨h1, h2, h3⟩ := hcv _ _ (List.getElem?_eq_getElem hjl)
     exact ⟨_, hg, h1, h2, D.one_fz h3 (List.all_eq_true.1 hb.2 _ (List.mem_of_getElem? hg))⟩
    have hfz : Fz S.lim w (.agg ((List.range n).map fun j => cv (off + j)).toArray) (.agg ((cs.drop off).take n)) := by
     refine .agg _ (by simp; omega) (fun v hv => ?_) fun j d v hj hv => ?_
     ·obtain ⟨j, hj, rfl⟩ := List.mem_map.1 hv
      obtain ⟨d, _, _, h2, _⟩ := hcell j (List.mem_range.1 hj)
      exact h2
     ·have hjn : j < n := by have := (List.getElem?_eq_some_iff.1 hv).1; simpa using this
      rw [List.getElem?_map, List.getElem?_range hjn] at hv
      cases hv
      obtain ⟨d', h1, _, _, h4⟩ := hcell j hjn
      rw [hj] at h1
      cases h1
      exact h4
    obtain ⟨fr', k1, k2⟩ := putD_sound (dst := dst) h (.fz hfz) (fun t ht => (hfz.men ht).elim) hs
    refine r_loadN (cs := (List.range n).map fun j => cv (off + j)) hev (fun j v hv => ?_) (by simp) (hK fr' S w _ k1 (Trans.refl S w) k2)
    have hjn : j < n := by have := (List.getElem?_eq_some_iff.1 hv).1; simpa using this
    rw [List.getElem?_map, List.getElem?_range hjn] at hv
    cases hv
    obtain ⟨d', _, h2, _⟩ := hcell j hjn
    exact h2
   ·exact hs.elim
  ·rename_i i hi ht
   haveI := (hT.ty _ _ ht).one (fun n fl ks e => hi n fl ks e)
   split at hs
   ·rename_i d hd
    split at hs
    ·rename_i ho
     obtain ⟨h1, h2, h3⟩ := hcv _ _ hd
     have hfz := D.one_fz h3 ho
     obtain ⟨fr', k1, k2⟩ := putD_sound (dst := dst) h (.fz hfz) (fun t ht => (hfz.men ht).elim) hs
     exact r_load1 hev h1 (hK fr' S w _ k1 (Trans.refl S w) k2)
    ·exact hs.elim
   ·exact hs.elim
  ·exact hs.elim
 ·exact hs.elim
theorem storeD_sound (hT : TOk P T Z) {S : Sig} {w : World} {a : Act} {fr : List D} {ty0 : Nat} {x v : Operand} {dst : Option Nat} {ty : TypeId} {pos : String} {after : Array Edge} {guard : Option (Nat × Bool)} {K : List D → Prop} (h : FR S w a fr) (hs : storeD T ty0 x v dst fr K) : StepOk P S w a (Oper.mk dst (.store ty0 x v) ty pos after guard) K := by
 intro K' Q hK
 unfold storeD at hs
 split at hs
 ·exact hs.elim
 ·split at hs
  ·rename_i u off hx
   obtain ⟨cs0, hd0, hev⟩ := h.objAt hx
   split at hs
   ·rename_i cs hd
    rw [hd0] at hd
    obtain rfl : cs = cs0 := (D.obj.inj (Option.some.inj hd)).symm
    split at hs
    ·rename_i ti ht
     split at hs
     ·rename_i vs hv
      split at hs
      ·rename_i hb
       simp only [Bool.and_eq_true] at hb
       have hn := Nat.eq_of_beq_eq_true hb.1
       have hle := Nat.le_of_ble_eq_true hb.2
       simp only [putObj, forceH_eq, forceL_eq, eraC_eq] at hs
       obtain ⟨q, hq⟩ := h.eval v
       have hc := CR.of hq hv
       obtain ⟨b, cur, e, hb', hloc, hh, hsz, htr, hfr⟩ := h.storeObj hd0 hc hle
       rw [hloc] at hev
       refine r_store (n := vs.length) (by rw [(hT.ty _ _ ht).sz, hn]) hev rfl hc.len hc.one hh (by omega) ?_
       exact hK _ S _ a hs htr hfr
      ·exact hs.elim
     ·exact hs.elim
    ·exact hs.elim
   ·exact hs.elim
  ·exact hs.elim
theorem newObj_sound {S : Sig} {w w' : World} {a : Act} {fr : List D} {t g : Nat} {cs : List D} {us : List Value} {ty : TypeId} {K : List D → Prop} (h : FR S w a fr) (hs : newObj fr t cs K) (hb : Blk w' g ty us.toArray) (hx : Ext w w') (hg : g = w.heap.size) (hc : CR S.lim w us cs) :
  ∃ fr' S', K fr' ∧ Trans S w S' w' ∧ FR S' w' (a.put (some t) (.pointer (some ⟨g, 0, none⟩))) fr' := by
 unfold newObj at hs
 split at hs
 ·rename_i d0 h0
  split at hs
  ·rename_i ho
   simp only [putObj, forceH_eq, forceL_eq] at hs
   simp only [Bool.or_eq_false_iff] at ho
   obtain ⟨S', t1, f1⟩ := h.allocObj (fun e => by subst e; simp at ho) h0 ho.1 hb hx hg hc
   exact ⟨_, S', hs, t1, f1⟩
  ·exact hs.elim
 ·exact hs.elim
theorem allocD_sound (hT : TOk P T Z) {S : Sig} {w : World} {a : Act} {fr : List D} {ty0 : Nat} {dst : Option Nat} {ty : TypeId} {pos : String} {after : Array Edge} {guard : Option (Nat × Bool)} {K : List D → Prop} (h : FR S w a fr) (hs : allocD Z M ty0 dst fr K) : StepOk P S w a (Oper.mk dst (.alloc ty0) ty pos after guard) K := by
 intro K' Q hK
 unfold allocD at hs
 split at hs
 ·split at hs
  ·split at hs
   ·rename_i zc hz
    split at hs
    ·rename_i h1
     haveI := hT.zer _ _ hz
     refine r_alloc fun g w' hb hx hg => ?_
     obtain ⟨fr', S', k, t1, f1⟩ := newObj_sound h hs hb hx hg (CR.zero h1)
     exact hK fr' S' w' _ k t1 f1
    ·exact hs.elim
   ·exact hs.elim
  ·exact hs.elim
 ·exact hs.elim
theorem boxD_sound {S : Sig} {w : World} {a : Act} {fr : List D} {ty0 t : Nat} {v : Operand} {ty : TypeId} {pos : String} {after : Array Edge} {guard : Option (Nat × Bool)} {K : List D → Prop} (h : FR S w a fr) (hs : boxD ty0 v t fr K) : StepOk P S w a (Oper.mk (some t) (.box ty0 v) ty pos after guard) K := by
 intro K' Q hK
 unfold boxD at hs
 split at hs
 ·rename_i cs hc
  obtain ⟨q, hq⟩ := h.eval v
  refine r_box rfl fun g w' hb hx hg => ?_
  obtain ⟨fr', S', k, t1, f1⟩ := newObj_sound (us := (a.eval v).cells.toList) h hs (by simpa using hb) hx hg (CR.of hq hc)
  exact hK fr' S' w' _ k t1 f1
 ·exact hs.elim
/-- A variable that is written once, where it is made. -/
theorem pairD_sound (hT : TOk P T Z) {S : Sig} {w : World} {a : Act} {fr : List D} {o o2 : Oper} {ty : Nat} {K : List D → Prop} (h : FR S w a fr) (ho : o.op = .alloc ty) (hs : pairD T Z o o2 ty fr K) {Q : Exit → Act → World → Prop} {ops : Array Oper} {r : List Oper} (hg : o.guard = none)
  (hK : ∀ fr' S' w' a', K fr' → Trans S w S' w' → FR S' w' a' fr' → wpList P ops Q r a' w') : wpList P ops Q (o :: o2 :: r) a w := by
 unfold pairD at hs
 split at hs
 ·rename_i t ty2 t2 v hdst hop2 hdst2 hg2
  split at hs
  ·rename_i hb
   simp only [Bool.and_eq_true] at hb
   obtain rfl := Nat.eq_of_beq_eq_true hb.1
   obtain rfl := Nat.eq_of_beq_eq_true hb.2
   split at hs
   ·rename_i ti zc ht hz
    rw [forceL_eq] at hs
    obtain ⟨S1, t1, h1⟩ := frz1_sound h v
    haveI := hT.zer _ _ hz
    have key : ∀ {vs : List D}, (evalD (frz1 fr v) v).cellsOf = some vs → (Nat.beq vs.length ti.cells && Nat.beq zc.length ti.cells) = true → putD (frz1 fr v) (some t) (.ptr vs) K → (∀ p : Value, (a.put (some t) p).eval v = a.eval v) → wpList P ops Q (o :: o2 :: r) a w := by
     intro vs hv hb2 hput hev
     simp only [Bool.and_eq_true] at hb2
     have hn1 := Nat.eq_of_beq_eq_true hb2.1
     have hn2 := Nat.eq_of_beq_eq_true hb2.2
     obtain ⟨q, hq⟩ := h1.eval v
     have hc := CR.of hq hv
     obtain ⟨dst, op, oty, pos, after, guard⟩ := o
     obtain ⟨dst2, op2, oty2, pos2, after2, guard2⟩ := o2
     simp only at ho hdst hop2 hdst2 hg hg2
     subst ho; subst hdst; subst hop2; subst hdst2
     refine wpList_plain hg fun K1 hK1 => r_alloc fun g w' hb' hx hgs => hK1 _ _ ?_
     refine wpList_plain hg2 fun K2 hK2 => ?_
     have ht' : t < a.tmps.size := by
      have : ∃ d0, (frz1 fr v)[t]? = some d0 := by
       simp only [putD] at hput
       split at hput
       ·exact ⟨_, by assumption⟩
       ·exact hput.elim
      obtain ⟨d0, hd0⟩ := this
      rw [h1.size]
      exact (List.getElem?_eq_some_iff.1 hd0).1
     refine r_store (n := ti.cells) (us := (a.eval v).cells.toList) (b := g) (o := 0) (hT.ty _ _ ht).sz ?_ ?_ (by rw [hc.len, hn1]) hc.one hb' (by simp; omega) (hK2 _ _ ?_)
     ·have := put_tmps_eq (v := .pointer (some ⟨g, 0, none⟩)) ht'
      simp [Act.eval, Array.getD_eq_getD_getElem?, this]
     ·rw [hev]
     ·have hx2 : Ext w ((w'.setRow g (zc.toArray.toList.take 0 ++ (a.eval v).cells.toList ++ zc.toArray.toList.drop (0 + ti.cells)).toArray)) := Ext.setRow hx (by omega)
      have hpt := PT.ext' h1.wf hx2
      have hrow : (w'.setRow g (zc.toArray.toList.take 0 ++ (a.eval v).cells.toList ++ zc.toArray.toList.drop (0 + ti.cells)).toArray).heap[g]? = some (.cells (zc.toArray.toList.take 0 ++ (a.eval v).cells.toList ++ zc.toArray.toList.drop (0 + ti.cells)).toArray ty (0, 0)) := setRow_heap w' g _ _ ty _ hb'
      have hcells : (zc.toArray.toList.take 0 ++ (a.eval v).cells.toList ++ zc.toArray.toList.drop (0 + ti.cells)) = (a.eval v).cells.toList := by
       simp [List.drop_eq_nil_of_le, hn2]
      rw [hcells] at hrow hpt ⊢
      have hfz : Fz S1.lim (w'.setRow g (a.eval v).cells.toList.toArray) (.pointer (some ⟨g, 0, none⟩)) (.ptr vs) := by
       refine .ptr (fun j => (a.eval v).cells.toList.getD j undef) (fun j d hj => ?_) fun j d hj => ?_
       ·have hjl := lt_of_len hc.len hj
        have he : (a.eval v).cells.toList[j]? = some ((a.eval v).cells.toList.getD j undef) := by rw [List.getD_eq_getElem?_getD, List.getElem?_eq_getElem hjl]; rfl
        refine ⟨by rw [cell_of_row _ g _ _ ty (0, 0) hrow, Nat.zero_add]; simpa using he, fun s hs' => ?_, hc.one _ (List.mem_of_getElem? he)⟩
        exfalso
        simp only [Sig.lim] at hs'
        cases hx' : S1.own g with
        | none => rw [hx'] at hs'; cases hs'
        | some y => have := h1.wf g y hx'; omega
       ·have hjl := lt_of_len hc.len hj
        have he : (a.eval v).cells.toList[j]? = some ((a.eval v).cells.toList.getD j undef) := by rw [List.getD_eq_getElem?_getD, List.getElem?_eq_getElem hjl]; rfl
        exact (hc.fz j d _ hj he).trans hpt.trans
      obtain ⟨fr', k1, k2⟩ := putD_sound (dst := some t) (v := .pointer (some ⟨g, 0, none⟩)) (h1.drop hpt) (.fz hfz) (fun t ht => (hfz.men ht).elim) hput
      exact hK fr' S1 _ _ k1 (t1.trans hpt.trans) k2
    split at hs
    ·rename_i tv
     split at hs
     ·rename_i hne
      split at hs
      ·rename_i vs hv
       split at hs
       ·rename_i hb2
        refine key hv hb2 hs fun p => ?_
        have hne' : tv ≠ t := fun e => by subst e; simp at hne
        simp only [Act.eval, Array.getD_eq_getD_getElem?, put_tmps_ne hne']
       ·exact hs.elim
      ·exact hs.elim
     ·exact hs.elim
    ·split at hs
     ·rename_i vs hv
      split at hs
      ·rename_i hb2
       exact key hv hb2 hs fun p => rfl
      ·exact hs.elim
     ·exact hs.elim
    ·exact hs.elim
   ·exact hs.elim
  ·exact hs.elim
 ·exact hs.elim
theorem hand_sound {S : Sig} {w : World} {a : Act} {fr : List D} {c : Call} {f u : Nat} {x : Operand} {xs : List Operand} {dst : Option Nat} {ty : TypeId} {pos : String} {after : Array Edge} {guard : Option (Nat × Bool)} {K : List D → Prop} (h : FR S w a fr) (hc : c.callee = .value (.func f)) (hargs : c.args.toList = x :: xs) (hu : rootOf fr x = some u) (hs : handD P f u xs dst fr K) : StepOk P S w a (Oper.mk dst (.call c) ty pos after guard) K := by
 intro K' Q hK
 obtain ⟨callee, args, argTypes⟩ := c
 simp only at hc hargs
 subst hc
 obtain rfl : args = (x :: xs).toArray := Array.ext' hargs
 unfold handD at hs
 split at hs
 ·rename_i m sz rows hd
  obtain ⟨d, out, ⟨d1, ds', rfl, hl, hp, hsem⟩, hput⟩ := hs.h
  refine own_call (p := dstPlace dst) h hd (root_eval h hu) hl hp hsem fun v S' w' t1 t2 t3 => ?_
  have hcalm := hsem.2.1
  have fin : ∀ {fr1 : List D}, FR S' w' a fr1 → putD fr1 dst d K → K' (a.put dst v) w' := fun f1 hp1 => by
   obtain ⟨fr', k1, k2⟩ := putD_sound f1 t3 (fun t ht => absurd ht (D.calm_men hcalm)) hp1
   exact hK fr' S' w' _ k1 t1 k2
  cases out with
  | none => simp only [forceL_eq] at hput; exact fin t2 hput
  | some d' => simp only [forceL_eq] at hput; exact fin t2 hput
 ·exact hs.elim
theorem lend1_sound {S : Sig} {w : World} {a : Act} {fr : List D} (h : FR S w a fr) {q : Place} {v : Value} {d : D} (hr : Rep S w q v d) : Fz (S.lend w).lim w v (lend1 fr d) := by
 have plain : ∀ {d : D}, Rep S w q v d → Fz (S.lend w).lim w v (match d.one with | true => d | false => .any) := fun {d} hr => by
  split
  ·rename_i ho
   exact (D.one_fz hr ho).lend
  ·exact .any _
 cases d with
 | ref u off =>
  simp only [lend1]
  split
  ·rename_i cs hd
   split
   ·rename_i ho
    cases hr with
    | fz h => cases h
    | ref hown =>
     obtain ⟨cv, hcv⟩ := h.loadObj hd
     refine .ptr (fun j => cv (off + j)) (fun j d hj => ?_) fun j d hj => ?_
     ·rw [List.getElem?_drop] at hj
      obtain ⟨h1, h2, h3⟩ := hcv _ _ hj
      exact ⟨h1, lend_okc h1, h2⟩
     ·rw [List.getElem?_drop] at hj
      obtain ⟨h1, h2, h3⟩ := hcv _ _ hj
      exact (D.one_fz h3 (List.all_eq_true.1 ho d (List.mem_of_getElem? hj))).lend
   ·exact .any _
  ·exact .any _
 | _ => exact plain hr
theorem lendD_sound {S : Sig} {w : World} {a : Act} {fr : List D} (h : FR S w a fr) {q : Place} {v : Value} {d : D} (hr : Rep S w q v d) : Fz (S.lend w).lim w v (lendD fr d) := by
 have plain : ∀ {d : D}, Rep S w q v d → Fz (S.lend w).lim w v (match d.passes with | true => d | false => .any) := fun {d} hr => by
  split
  ·rename_i ho
   exact (hr.passes ho).lend
  ·exact .any _
 cases d with
 | fn f caps =>
  obtain ⟨vs, rfl, hl, ih⟩ := hr.fn_inv
  refine .fn vs (by simp [hl]) fun j d v hd hv => ?_
  rw [List.getElem?_map] at hd
  cases hc : caps[j]? with
  | none => rw [hc] at hd; cases hd
  | some e =>
   rw [hc] at hd
   cases hd
   exact lend1_sound h (ih j e v hc hv)
 | sl m sz rows =>
  cases hr with
  | fz hz =>
   have hz2 := hz.lend
   simp only [lendD]
   cases hz2 with
   | slNil => exact .slNil 0 sz
   | slE => exact .slE _ sz
   | sl cv a1 a2 a3 a4 a5 => exact .sl cv a1 a2 a3 a4 a5
  | @own _ b cap _ _ _ cur e g =>
   refine g.fz2 (fun hz => hz.lend) rfl fun k hk s hs => ?_
   simp only [Sig.lim, Sig.lend, g.own, g.heap, Option.map_some, Option.some.injEq] at hs
   have h1 := g.size
   have h2 := Nat.mul_le_mul_right sz g.le
   omega
 | obj cs =>
  simp only [lendD]
  split
  ·rename_i ho
   cases hr with
   | fz h => cases h
   | @obj t b _ _ cur e hb hp hl hh hs h1 ih =>
    refine .ptr (fun j => cur.getD j undef) (fun j d hj => ?_) fun j d hj => ?_
    ·have hjl : j < cur.size := by rw [← hs]; exact (List.getElem?_eq_some_iff.1 hj).1
     have hc : cur[j]? = some (cur.getD j undef) := by simp [Array.getD_eq_getD_getElem?, hjl]
     have hcell : w.cell? ⟨b, 0 + j, none⟩ = some (cur.getD j undef) := by rw [Nat.zero_add, cell_of_row w b _ cur e (0, 0) hh]; exact hc
     exact ⟨hcell, lend_okc hcell, h1 j _ hc⟩
    ·have hjl : j < cur.size := by rw [← hs]; exact (List.getElem?_eq_some_iff.1 hj).1
     have hc : cur[j]? = some (cur.getD j undef) := by simp [Array.getD_eq_getD_getElem?, hjl]
     exact (D.one_fz (ih j d _ hj hc) (List.all_eq_true.1 ho d (List.mem_of_getElem? hj))).lend
  ·exact .any _
 | ref u off => exact lend1_sound h hr
 | _ => exact plain hr
theorem lendE_sound {S : Sig} {w : World} {a : Act} {fr : List D} {c : Call} {f : Nat} {dst : Option Nat} {ty : TypeId} {pos : String} {after : Array Edge} {guard : Option (Nat × Bool)} {K : List D → Prop} (h : FR S w a fr) (hc : c.callee = .value (.func f)) (hs : lendE P f c.args.toList dst fr K) : StepOk P S w a (Oper.mk dst (.call c) ty pos after guard) K := by
 intro K' Q hK
 obtain ⟨callee, args, argTypes⟩ := c
 simp only at hc
 subst hc
 obtain ⟨d, ⟨hflat, ds', h1, h2, hsem⟩, hput⟩ := hs.h
 simp only at h1
 have hlen : (args.toList.map a.eval).length = ds'.length := by rw [h1.len]; simp
 have hfz : ∀ (i : Nat) (d : D) (v : Value), ds'[i]? = some d → (args.toList.map a.eval)[i]? = some v → Fz (S.lend w).lim w v d := fun i d v hd hv => by
  rw [List.getElem?_map] at hv
  cases hx : args.toList[i]? with
  | none => rw [hx] at hv; cases hv
  | some x =>
   rw [hx] at hv
   cases hv
   obtain ⟨q, hq⟩ := h.eval x
   have hle := h1.get (i := i) (d := lendD fr (evalD fr x)) (by rw [List.getElem?_map, hx]; rfl) hd
   exact ((Rep.fz (S := S.lend w) (p := .dead) (lendD_sound h hq)).le hle).passes (List.all_eq_true.1 h2 d (List.mem_of_getElem? hd))
 have hcalm := hsem.2.1
 haveI := hsem.1
 refine r_call (call_lend hsem hflat h.wf hlen hfz) (by apply Array.ext'; simp) fun e w' ⟨v, he, hpt, hrep⟩ => ?_
 subst he
 obtain ⟨fr', k1, k2⟩ := putD_sound (dst := dst) (h.drop hpt) (hrep _) (fun t ht => absurd ht (D.calm_men hcalm)) hput
 exact hK fr' S w' _ k1 hpt.trans k2
theorem handO_sound {S : Sig} {w : World} {a : Act} {fr : List D} {c : Call} {f u : Nat} {x : Operand} {xs : List Operand} {dst : Option Nat} {ty : TypeId} {pos : String} {after : Array Edge} {guard : Option (Nat × Bool)} {K : List D → Prop} (h : FR S w a fr) (hc : c.callee = .value (.func f)) (hargs : c.args.toList = x :: xs) (hu : objAt fr x = some (u, 0)) (hs : handO P f u xs dst fr K) : StepOk P S w a (Oper.mk dst (.call c) ty pos after guard) K := by
 intro K' Q hK
 obtain ⟨callee, args, argTypes⟩ := c
 simp only at hc hargs
 subst hc
 obtain rfl : args = (x :: xs).toArray := Array.ext' hargs
 obtain ⟨cs0, hd0, hev⟩ := h.objAt hu
 unfold handO at hs
 split at hs
 ·rename_i cs hd
  split at hs
  ·rename_i hcalm1
   obtain ⟨d, out, ⟨d1, ds', rfl, hl, hp, hsem⟩, hput⟩ := hs.h
   split at hput
   ·rename_i cs'
    simp only [putObj, forceH_eq, forceL_eq, eraU_eq] at hput
    refine own_callO (p := dstPlace dst) h hd hcalm1 hev hl hp hsem fun v S' w' t1 t2 t3 => ?_
    have hcalm := hsem.2.1
    obtain ⟨fr', k1, k2⟩ := putD_sound t2 t3 (fun t ht => absurd ht (D.calm_men hcalm)) hput
    exact hK fr' S' w' _ k1 t1 k2
   ·exact hput.elim
  ·exact hs.elim
 ·exact hs.elim
theorem stepD_sound (hT : TOk P T Z) {S : Sig} {w : World} {a : Act} {fr : List D} {o : Oper} {K : List D → Prop} (h : FR S w a fr) (hs : stepD P T Z M o fr K) : StepOk P S w a o K := by
 have ev : ∀ t v, a.tmps[t]? = some v → a.eval (.tmp t) = v := fun t v hv => by simp [Act.eval, Array.getD_eq_getD_getElem?, hv]
 obtain ⟨dst, op, ty, pos, after, guard⟩ := o
 unfold stepD at hs
 simp only at hs
 split at hs
 ·split at hs
  ·rename_i hd
   exact alias_sound h hd rfl (ev _) hs
  ·rename_i hd
   exact alias_sound h hd rfl (ev _) hs
  ·rename_i u u' hd
   obtain ⟨v, hv, hsl⟩ := h.at hd
   obtain ⟨g1, d', g2, g3, _⟩ := hsl
   refine alias_sound h g2 g3 (fun v' hv' => ?_) hs
   rw [g1] at hv'
   cases hv'
   exact ev _ _ hv
  ·rename_i hd
   obtain ⟨r1, r2, r3⟩ := ref_rep h hd 0
   obtain ⟨fr', k1, k2⟩ := putD_sound h (r1 _) r2 hs
   exact fun K' Q hK => r_move (ev _ _ r3) (hK fr' S w _ k1 (Trans.refl S w) k2)
  ·exact pureD_sound hT h hs
 ·split at hs
  ·exact take_sound h (ev _) hs
  ·exact take_sound h (ev _) hs
  ·rename_i u u' hd
   obtain ⟨v, hv, hsl⟩ := h.at hd
   refine take_sound h (fun v' hv' => ?_) hs
   rw [hsl.1] at hv'
   cases hv'
   exact ev _ _ hv
  ·rename_i hd
   obtain ⟨r1, r2, r3⟩ := ref_rep h hd 0
   obtain ⟨fr', k1, k2⟩ := putD_sound h (r1 _) r2 hs
   exact fun K' Q hK => r_assign (ev _ _ r3) (hK fr' S w _ k1 (Trans.refl S w) k2)
  ·exact pureD_sound hT h hs
 ·obtain ⟨s, r, hp, h12⟩ := pickD_inv hs
  obtain ⟨h1, h2⟩ := andO_iff.1 h12
  obtain ⟨p, h3, h4⟩ := pickR_sound (h.eval _) (h.eval _) (h.eval _) hp h1
  intro K' Q hK
  refine pick_run h3 ?_
  rw [h4]
  obtain ⟨fr', k1, k2⟩ := putD_sound h (.fz (.bool r)) no_men_bool h2
  exact hK fr' S w _ k1 (Trans.refl S w) k2
 ·exact refOp_sound hT h hs
 ·split at hs
  ·rename_i hc
   exact append_sound hT h hc hs
  ·rename_i hc
   exact del_sound hT h hc hs
  ·exact pureD_sound hT h hs
  ·rename_i f hcal
   split at hs
   ·split at hs
    ·rename_i x xs hargs
     split at hs
     ·rename_i u hu
      rw [forceL_eq] at hs
      obtain ⟨S1, t1, h1⟩ := fold_sound (fun S fr x h => down1_sound h x) xs _ _ h
      split at hs
      ·rename_i u' hu'
       split at hs
       ·rename_i he
        obtain rfl := Nat.eq_of_beq_eq_true he
        exact (hand_sound h1 hcal hargs hu' hs).ghost t1
       ·exact hs.elim
      ·exact hs.elim
     ·split at hs
      ·rw [forceL_eq] at hs
       obtain ⟨S1, t1, h1⟩ := fold_sound (fun S fr x h => down1_sound h x) xs _ _ h
       split at hs
       ·rename_i u' hu'
        exact (handO_sound h1 hcal hargs hu' hs).ghost t1
       ·exact hs.elim
      ·rw [forceL_eq] at hs
       obtain ⟨S1, t1, h1⟩ := prep_sound h _
       exact (pureD_sound hT h1 hs).ghost t1
    ·exact pureD_sound hT h hs
   ·split at hs
    ·exact lendE_sound h hcal hs
    ·rw [forceL_eq] at hs
     obtain ⟨S1, t1, h1⟩ := prep_sound h _
     exact (pureD_sound hT h1 hs).ghost t1
  ·rw [forceL_eq] at hs
   obtain ⟨S1, t1, h1⟩ := prep_sound h _
   exact (pureD_sound hT h1 hs).ghost t1
 ·split at hs
  ·rename_i hd
   obtain ⟨r1, r2, r3⟩ := ref_rep h hd 0
   obtain ⟨fr', k1, k2⟩ := putD_sound h (r1 _) r2 hs
   exact fun K' Q hK => r_nilCheck (ev _ _ r3) (hK fr' S w _ k1 (Trans.refl S w) k2)
  ·exact pureD_sound hT h hs
 ·split at hs
  ·rename_i hd
   split at hs
   ·rename_i ht
    split at hs
    ·rename_i off n ag hf
     haveI := (hT.ty _ _ ht).2.1 _ _ _ _ hf
     obtain ⟨r1, r2, _⟩ := ref_rep h hd off
     obtain ⟨_, _, r3⟩ := ref_rep h hd 0
     obtain ⟨fr', k1, k2⟩ := putD_sound h (r1 _) r2 hs
     exact fun K' Q hK => r_fieldAddr (ev _ _ r3) (by rw [Nat.zero_add]; exact hK fr' S w _ k1 (Trans.refl S w) k2)
    ·exact hs.elim
   ·exact hs.elim
  ·exact pureD_sound hT h hs
 ·split at hs
  ·rename_i hx
   rw [forceL_eq] at hs
   obtain ⟨S1, t1, h1⟩ := frzL_sound T _ h _ _
   exact StepOk.ghost t1 (loadD_sound hT h1 (by rw [objAt_frzL]; exact hx) hs)
  ·exact pureD_sound hT h hs
 ·rw [forceL_eq] at hs
  obtain ⟨S1, t1, h1⟩ := frz1_sound h _
  refine ((storeD_sound hT h1 hs).mono fun {fr' S' w' a'} k f => ?_).ghost t1
  unfold onceD at k
  split at k
  ·split at k
   ·unfold freezeD at k
    split at k
    ·rename_i hd
     split at k
     ·rename_i hb
      simp only [Bool.and_eq_true] at hb
      rw [forceL_eq] at k
      obtain ⟨S2, t2, f2⟩ := f.freezeObj hd hb.1 hb.2
      exact ⟨_, S2, k, t2, f2⟩
     ·exact k.elim
    ·exact k.elim
   ·exact ⟨_, _, k, Trans.refl _ _, f⟩
  ·exact ⟨_, _, k, Trans.refl _ _, f⟩
 ·exact upd_sound hT h hs
 ·exact allocD_sound hT h hs
 ·split at hs
  ·split at hs
   ·rw [forceL_eq] at hs
    obtain ⟨S1, t1, h1⟩ := frz1_sound h _
    exact (boxD_sound h1 hs).ghost t1
   ·rw [forceL_eq] at hs
    obtain ⟨S1, t1, h1⟩ := prep_sound h _
    exact (pureD_sound hT h1 hs).ghost t1
  ·exact hs.elim
 ·split at hs
  ·rw [forceL_eq] at hs
   obtain ⟨S1, t1, h1⟩ := prep_sound h _
   exact (pureD_sound hT h1 hs).ghost t1
  ·exact pureD_sound hT h hs
theorem name_sound {S : Sig} {w : World} {a : Act} {fr : List D} {u : Nat} {dst : Option Nat} {K : List D → Prop} (h : FR S w a fr) (hs : nameD fr u dst K) : ∃ v, a.tmps[u]? = some v ∧ ∃ fr', K fr' ∧ FR S w (a.put dst v) fr' ∧ ((∃ x sz k j, fr[u]? = some (.es x sz k j)) ∨ (∃ x o sz k j, fr[u]? = some (.el x o sz k j)) → ∃ p, v = .pointer (some p)) := by
 unfold nameD at hs
 split at hs
 ·rename_i x sz k j hd
  obtain ⟨v, hv, hsl⟩ := h.at hd
  have hp : ∃ p, v = .pointer (some p) := by
   obtain ⟨_, s, _, b, l, c, _, rfl⟩ := hsl
   exact ⟨_, rfl⟩
  refine ⟨v, hv, ?_⟩
  cases dst with
  | none => exact ⟨fr, hs, h, fun _ => hp⟩
  | some t =>
   simp only at hs
   split at hs
   ·rename_i hne
    have hne' : x ≠ t := fun e => by subst e; simp at hne
    obtain ⟨⟨d', g1, g2, _⟩, g3⟩ := hsl
    obtain ⟨fr', k1, k2⟩ := putNm_sound (dst := some t) (v := v) h rfl (fun t' e => by cases e; exact ⟨⟨d', g1, g2, hne'⟩, g3⟩) hs
    exact ⟨fr', k1, k2, fun _ => hp⟩
   ·exact hs.elim
 ·rename_i x off sz k j hd
  obtain ⟨v, hv, hsl⟩ := h.at hd
  have hp : ∃ p, v = .pointer (some p) := by
   obtain ⟨_, s, _, b, l, c, _, rfl⟩ := hsl
   exact ⟨_, rfl⟩
  obtain ⟨fr', k1, k2⟩ := putNm_sound (dst := dst) (v := v) (d := .el x off sz k j) h rfl (fun t' e => (hsl : SlotRep S w a fr t' v (.el x off sz k j))) hs
  exact ⟨v, hv, fr', k1, k2, fun _ => hp⟩
 ·rename_i x off hd
  obtain ⟨v, hv, hsl⟩ := h.at hd
  obtain ⟨fr', k1, k2⟩ := putNm_sound (dst := dst) (v := v) (d := .alc x off) h rfl (fun t' e => (hsl : SlotRep S w a fr t' v (.alc x off))) hs
  refine ⟨v, hv, fr', k1, k2, fun e => ?_⟩
  rw [hd] at e
  rcases e with ⟨_, _, _, _, e⟩ | ⟨_, _, _, _, _, e⟩ <;> cases e
 ·exact hs.elim
theorem nameMove_sound {S : Sig} {w : World} {a : Act} {fr : List D} {u : Nat} {dst : Option Nat} {ty : TypeId} {pos : String} {after : Array Edge} {guard : Option (Nat × Bool)} {K : List D → Prop} (h : FR S w a fr) (hs : nameD fr u dst K) :
  StepOk P S w a (Oper.mk dst (.move (.tmp u)) ty pos after guard) K ∧ StepOk P S w a (Oper.mk dst (.assign (.tmp u)) ty pos after guard) K := by
 obtain ⟨v, hv, fr', k1, k2, _⟩ := name_sound h hs
 have he : a.eval (.tmp u) = v := by simp [Act.eval, Array.getD_eq_getD_getElem?, hv]
 exact ⟨fun K' Q hK => r_move he (hK fr' S w _ k1 (Trans.refl S w) k2), fun K' Q hK => r_assign he (hK fr' S w _ k1 (Trans.refl S w) k2)⟩
theorem nameNil_sound {S : Sig} {w : World} {a : Act} {fr : List D} {u : Nat} {dst : Option Nat} {ty : TypeId} {pos : String} {after : Array Edge} {guard : Option (Nat × Bool)} {K : List D → Prop} (h : FR S w a fr) (hd : (∃ x sz k j, fr[u]? = some (.es x sz k j)) ∨ (∃ x o sz k j, fr[u]? = some (.el x o sz k j))) (hs : nameD fr u dst K) :
  StepOk P S w a (Oper.mk dst (.nilCheck (.tmp u)) ty pos after guard) K := by
 obtain ⟨v, hv, fr', k1, k2, k3⟩ := name_sound h hs
 obtain ⟨p, rfl⟩ := k3 hd
 have he : a.eval (.tmp u) = .pointer (some p) := by simp [Act.eval, Array.getD_eq_getD_getElem?, hv]
 exact fun K' Q hK => r_nilCheck he (hK fr' S w _ k1 (Trans.refl S w) k2)
/-- What is known of the rows that a name leads to. -/
theorem rowsN_es {S : Sig} {w : World} {a : Act} {fr : List D} (h : FR S w a fr) {t u sz k j : Nat} {v : Value} {sz' : Nat} {rows : List (List D)} (hsl : SlotRep S w a fr t v (.es u sz k j)) (hr : rowsN fr (.es u sz k j) = some (sz', rows)) :
  ∃ s m q, ElAt s sz k j v ∧ Rep S w q s (.sl (m + 1) sz' rows) := by
 simp only [rowsN] at hr
 split at hr
 ·rename_i m sz2 rows2 hd
  cases hr
  obtain ⟨_, s, hs, he⟩ := hsl
  obtain ⟨v', hv', hs'⟩ := h.at hd
  obtain rfl : s = v' := Option.some.inj (hs.symm.trans hv')
  exact ⟨s, m, _, he, hs'.1⟩
 ·cases hr
theorem rowsN_el {S : Sig} {w : World} {a : Act} {fr : List D} (h : FR S w a fr) {t u off sz k j : Nat} {v : Value} {sz' : Nat} {rows : List (List D)} (hsl : SlotRep S w a fr t v (.el u off sz k j)) (hr : rowsN fr (.el u off sz k j) = some (sz', rows)) :
  ∃ s m q, ElAt s sz k j v ∧ Rep S w q s (.sl (m + 1) sz' rows) := by
 simp only [rowsN] at hr
 split at hr
 ·rename_i cs hd
  split at hr
  ·rename_i m sz2 rows2 hc
   cases hr
   obtain ⟨_, s, hs, he⟩ := hsl
   obtain ⟨v', hv', hs'⟩ := h.at hd
   exact ⟨s, m, _, he, hs'.1.obj_cell hc hs⟩
  ·cases hr
 ·cases hr
theorem loadR_sound (hT : TOk P T Z) {S : Sig} {w : World} {a : Act} {fr : List D} {ty0 u : Nat} {p : Place} {s v : Value} {m sz k j : Nat} {rows : List (List D)} {dst : Option Nat} {ty : TypeId} {pos : String} {after : Array Edge} {guard : Option (Nat × Bool)} {K : List D → Prop} (h : FR S w a fr) (hv : a.tmps[u]? = some v) (he : ElAt s sz k j v) (hrep : Rep S w p s (.sl (m + 1) sz rows)) (hs : loadR T ty0 rows k j dst fr K) :
  StepOk P S w a (Oper.mk dst (.load ty0 (.tmp u)) ty pos after guard) K := by
 intro K' Q hK
 obtain ⟨r, ⟨_, hr⟩, hs⟩ := hs.h
 have hr : rows[k]? = some r := hr
 obtain ⟨b, cap, cur, e, rfl, rfl, g⟩ := el_at hrep he hr
 have hev : a.eval (.tmp u) = .pointer (some ⟨b, k * sz + j, none⟩) := by simp [Act.eval, Array.getD_eq_getD_getElem?, hv]
 have hel : ∀ i d, r[i]? = some d → ∃ x, w.cell? ⟨b, k * sz + i, none⟩ = some x ∧ x.oneCell' = true ∧ Fz S.lim w x d := fun i d hd => g.elem hr hd
 split at hs
 ·rename_i n fl ks ht
  haveI := (hT.ty _ _ ht).1
  split at hs
  ·rename_i hb
   have hle := Nat.le_of_ble_eq_true hb
   have hex : ∀ i, ∃ x : Value, ∀ d, r[j + i]? = some d → w.cell? ⟨b, k * sz + (j + i), none⟩ = some x ∧ x.oneCell' = true ∧ Fz S.lim w x d := fun i => by
    cases hd : r[j + i]? with
    | none => exact ⟨undef, fun d hd' => by cases hd'⟩
    | some d =>
     obtain ⟨x, hx⟩ := hel _ _ hd
     exact ⟨x, fun d' hd' => by cases hd'; exact hx⟩
   let cv : Nat → Value := fun i => Classical.choose (hex i)
   have hcv : ∀ i d, r[j + i]? = some d → w.cell? ⟨b, k * sz + (j + i), none⟩ = some (cv i) ∧ (cv i).oneCell' = true ∧ Fz S.lim w (cv i) d := fun i => Classical.choose_spec (hex i)
   have hget : ∀ i, i < n → ∃ d, r[j + i]? = some d ∧ ((r.drop j).take n)[i]? = some d := fun i hi => by
    have hlt : j + i < r.length := by omega
    exact ⟨r[j + i], List.getElem?_eq_getElem hlt, by rw [List.getElem?_take, if_pos hi, List.getElem?_drop, List.getElem?_eq_getElem hlt]⟩
   have hfz : Fz S.lim w (.agg ((List.range n).map cv).toArray) (.agg ((r.drop j).take n)) := by
    refine .agg _ (by simp; omega) (fun v hv => ?_) fun i d v hi hv => ?_
    ·obtain ⟨i, hi, rfl⟩ := List.mem_map.1 hv
     obtain ⟨d, h1, _⟩ := hget i (List.mem_range.1 hi)
     exact (hcv i d h1).2.1
    ·have hin : i < n := by have := (List.getElem?_eq_some_iff.1 hv).1; simpa using this
     rw [List.getElem?_map, List.getElem?_range hin] at hv
     cases hv
     obtain ⟨d', h1, h2⟩ := hget i hin
     rw [hi] at h2
     cases h2
     exact (hcv i d h1).2.2
   obtain ⟨fr', k1, k2⟩ := putD_sound (dst := dst) h (.fz hfz) (fun t ht => (hfz.men ht).elim) hs
   refine r_loadN (cs := (List.range n).map cv) hev (fun i v hv => ?_) (by simp) (hK fr' S w _ k1 (Trans.refl S w) k2)
   have hin : i < n := by have := (List.getElem?_eq_some_iff.1 hv).1; simpa using this
   rw [List.getElem?_map, List.getElem?_range hin] at hv
   cases hv
   obtain ⟨d, h1, _⟩ := hget i hin
   have := (hcv i d h1).1
   rwa [← Nat.add_assoc] at this
  ·exact hs.elim
 ·rename_i i hi ht
  haveI := (hT.ty _ _ ht).one (fun n fl ks e => hi n fl ks e)
  split at hs
  ·rename_i d hd
   split at hs
   ·obtain ⟨x, h1, h2, h3⟩ := hel _ _ hd
    obtain ⟨fr', k1, k2⟩ := putD_sound (dst := dst) h (.fz h3) (fun t ht => (h3.men ht).elim) hs
    exact r_load1 hev h1 (hK fr' S w _ k1 (Trans.refl S w) k2)
   ·exact hs.elim
  ·exact hs.elim
 ·exact hs.elim
theorem takeN_sound {S : Sig} {w : World} {a : Act} {fr : List D} (h : FR S w a fr) (x : Operand) : ∃ S', Trans S w S' w ∧ FR S' w a (takeN fr x) := by
 unfold takeN
 split
 ·split
  ·rename_i hx
   split
   ·rename_i hd
    split
    ·rename_i hc
     exact h.takeC hx hd hc
    ·exact ⟨S, Trans.refl S w, h⟩
   ·exact ⟨S, Trans.refl S w, h⟩
  ·exact ⟨S, Trans.refl S w, h⟩
 ·exact ⟨S, Trans.refl S w, h⟩
theorem storeEl_run (hT : TOk P T Z) {w : World} {a : Act} {u : Nat} {v : Operand} {o : Nat} {ti : TI} {vs : List D} {us : List Value} {b : Nat} {cur : Array Value} {e : TypeId} {ty0 : Nat} {dst : Option Nat} {ty : TypeId} {pos : String} {after : Array Edge} {guard : Option (Nat × Bool)} {K' : Act → World → Prop} {Q : Exit → Act → World → Prop}
  (ht : T ty0 = some ti) (hn : vs.length = ti.cells) (hev : a.eval (.tmp u) = .pointer (some ⟨b, o, none⟩)) (hus : (a.eval v).cells.toList = us) (hul : us.length = vs.length) (hone : ∀ u : Value, u ∈ us → u.oneCell' = true) (hh : w.heap[b]? = some (.cells cur e (0, 0))) (hle : o + vs.length ≤ cur.size)
  (hk : K' (a.put dst undef) (w.setRow b (cur.toList.take o ++ us ++ cur.toList.drop (o + vs.length)).toArray)) : (Oper.mk dst (.store ty0 (.tmp u) v) ty pos after guard).wp P a w K' Q :=
 r_store (n := vs.length) (by rw [(hT.ty _ _ ht).sz, hn]) hev hus hul hone hh hle hk
theorem storeEs_sound (hT : TOk P T Z) {S : Sig} {w : World} {a : Act} {fr : List D} {ty0 u x sz k j : Nat} {v0 : Value} {v : Operand} {rows : List (List D)} {ty : TypeId} {pos : String} {after : Array Edge} {guard : Option (Nat × Bool)} {K : List D → Prop} (h : FR S w a fr) (hv : a.tmps[u]? = some v0) (hsl : SlotRep S w a fr u v0 (.es x sz k j)) (hd : fr[x]? = some (.sl 2 sz rows))
  (hs : storeR T ty0 v x sz k j rows fr fun rows => forceL (fr.set x (.sl 2 sz rows)) K) : StepOk P S w a (Oper.mk none (.store ty0 (.tmp u) v) ty pos after guard) K := by
 intro K' Q hK
 unfold storeR at hs
 split at hs
 ·rename_i ti vs ht hvs
  split at hs
  ·rename_i hb
   simp only [Bool.and_eq_true] at hb
   have hn := Nat.eq_of_beq_eq_true hb.1
   have hle := Nat.le_of_ble_eq_true hb.2
   obtain ⟨r, ⟨_, hr⟩, hs⟩ := hs.h
   have hr : rows[k]? = some r := hr
   rw [forceL_eq] at hs
   obtain ⟨_, s, hs1, he⟩ := hsl
   obtain ⟨v', hv', hs'⟩ := h.at hd
   obtain rfl : s = v' := Option.some.inj (hs1.symm.trans hv')
   obtain ⟨b, cap, cur, e, rfl, rfl, g⟩ := el_at hs'.1 he hr
   have hev : a.eval (.tmp u) = .pointer (some ⟨b, k * sz + j, none⟩) := by simp [Act.eval, Array.getD_eq_getD_getElem?, hv]
   obtain ⟨q, hq⟩ := h.eval v
   have hc := CR.of hq hvs
   obtain ⟨h1, hbt, CUR, g'⟩ := g.store h.wf (by simp [Place.slot]) hr hc hle
   refine storeEl_run hT ht hn hev rfl hc.len hc.one g.heap h1 ?_
   refine hK _ S _ a hs hbt.tr (h.reown hbt g.own rfl hd rfl (fun y hy => ?_) (fun t => no_men_sl) rfl)
   rw [hs1] at hy
   cases hy
   have := Rep.own g'
   rwa [List.length_set] at this
  ·exact hs.elim
 ·exact hs.elim
theorem storeEl_sound (hT : TOk P T Z) {S : Sig} {w : World} {a : Act} {fr : List D} {ty0 u x c sz k j : Nat} {v0 : Value} {v : Operand} {cs : List D} {rows : List (List D)} {ty : TypeId} {pos : String} {after : Array Edge} {guard : Option (Nat × Bool)} {K : List D → Prop} (h : FR S w a fr) (hv : a.tmps[u]? = some v0) (hsl : SlotRep S w a fr u v0 (.el x c sz k j)) (hd : fr[x]? = some (.obj cs)) (hcc : cs[c]? = some (.sl 2 sz rows))
  (hs : storeR T ty0 v x sz k j rows fr fun rows => putObj fr x (cs.set c (.sl 2 sz rows)) K) : StepOk P S w a (Oper.mk none (.store ty0 (.tmp u) v) ty pos after guard) K := by
 intro K' Q hK
 unfold storeR at hs
 split at hs
 ·rename_i ti vs ht hvs
  split at hs
  ·rename_i hb
   simp only [Bool.and_eq_true] at hb
   have hn := Nat.eq_of_beq_eq_true hb.1
   have hle := Nat.le_of_ble_eq_true hb.2
   obtain ⟨r, ⟨_, hr⟩, hs⟩ := hs.h
   have hr : rows[k]? = some r := hr
   simp only [putObj, forceH_eq, forceL_eq] at hs
   obtain ⟨_, s, hs1, he⟩ := hsl
   obtain ⟨v', hv', hs'⟩ := h.at hd
   have hrep := hs'.1.obj_cell hcc hs1
   obtain ⟨b, cap, cur, e, rfl, rfl, g⟩ := el_at hrep he hr
   have hev : a.eval (.tmp u) = .pointer (some ⟨b, k * sz + j, none⟩) := by simp [Act.eval, Array.getD_eq_getD_getElem?, hv]
   obtain ⟨q, hq⟩ := h.eval v
   have hc := CR.of hq hvs
   obtain ⟨h1, hbt, CUR, g'⟩ := g.store h.wf (by simp) hr hc hle
   refine storeEl_run hT ht hn hev rfl hc.len hc.one g.heap h1 ?_
   refine hK _ S _ a hs hbt.tr (h.reownC hbt g.own hd (fun y hy => ?_) (fun t => no_men_sl))
   rw [hs1] at hy
   cases hy
   have := Rep.own g'
   rwa [List.length_set] at this
  ·exact hs.elim
 ·exact hs.elim
theorem set_at_split {cs : List D} {off : Nat} {d : D} (h : off < cs.length) : cs.take off ++ [d] ++ cs.drop (off + 1) = cs.set off d := by
 rw [List.set_eq_take_append_cons_drop, if_pos h]
 simp
/-- An object's cell takes what a slot owns. -/
theorem give_sound (hT : TOk P T Z) {S : Sig} {w : World} {a : Act} {fr : List D} {ty0 : Nat} {x v : Operand} {u off s m sz : Nat} {cs : List D} {rows : List (List D)} {ty : TypeId} {pos : String} {after : Array Edge} {guard : Option (Nat × Bool)} {K : List D → Prop} (h : FR S w a fr) {e0 sz0 by0 : Nat} {zc0 : List Value} (ht : T ty0 = some (.sl e0 sz0 by0 zc0))
  (hx : objAt fr x = some (u, off)) (hr : rootOf fr v = some s) (hd : fr[u]? = some (.obj cs)) (hsl : fr[s]? = some (.sl (m + 1) sz rows)) (hlt : off < cs.length)
  (hs : K ((eraC u off 1 ((fr.map (unal s .any)).set s .any)).set u (.obj (cs.set off (.sl (m + 1) sz rows))))) : StepOk P S w a (Oper.mk none (.store ty0 x v) ty pos after guard) K := by
 intro K' Q hK
 obtain ⟨cs0, hd0, hev⟩ := h.objAt hx
 have hv := root_eval h hr
 have hus : u ≠ s := fun e => by subst e; rw [hd] at hsl; cases hsl
 obtain ⟨S1, v', t1, t2, f1, r1⟩ := h.take ⟨u + 2, [off]⟩ hsl
 obtain rfl : v' = a.eval v := Option.some.inj (t2.symm.trans hv)
 have hd1 : ((fr.map (unal s .any)).set s .any)[u]? = some (.obj cs) := by
  rw [List.getElem?_set_ne (Ne.symm hus), List.getElem?_map, hd]
  rfl
 -- the object stays where it is
 obtain ⟨vo, hvo, hso⟩ := h.at hd
 obtain ⟨b0, _, _, hvo0, hbo0, hloc0, _⟩ := hso.1.obj_inv
 have f2 := f1.recell hd1 off (r0 := .any) (fun _ _ => .fz (.any _)) (fun t ht => by cases ht)
 have hd2 : ((((fr.map (unal s .any)).set s .any)).set u (.obj (cs.set off .any)))[u]? = some (.obj (cs.set off .any)) := List.getElem?_set_self (by
  have := (List.getElem?_eq_some_iff.1 hd).1
  simpa using this)
 have one : (a.eval v).oneCell' = true := by
  rcases r1.sl_inv with ⟨e, _⟩ | ⟨b, cap, cur, e, e', _⟩
  ·rw [e]; rfl
  ·rw [e']; rfl
 have hcells : (a.eval v).cells.toList = [a.eval v] := by
  rcases r1.sl_inv with ⟨e, _⟩ | ⟨b, cap, cur, e, e', _⟩
  ·rw [e]; rfl
  ·rw [e']; rfl
 have hc : CR S1.lim w [a.eval v] [D.any] := ⟨rfl, fun u hu => by simp only [List.mem_singleton] at hu; subst hu; exact one, fun j d u hj hu => by
  match j, hj with
  | 0, hj => cases hj; exact .any _
  | j + 1, hj => simp at hj⟩
 obtain ⟨b, cur, e, hb', hloc, hh, hsz, htr, f3⟩ := f2.storeObj (off := off) hd2 hc (by simp; omega)
 have hevS : a.eval x = .pointer (some ⟨b, off, none⟩) := by
  rw [hev, hloc0]
  congr 3
  obtain ⟨vo1, hvo1, hso1⟩ := f1.at hd1
  obtain ⟨b1, _, _, hvo1', _, hloc1, _⟩ := hso1.1.obj_inv
  have e1 : vo1 = vo := Option.some.inj (hvo1.symm.trans hvo)
  rw [hvo1', hvo0] at e1
  have : b1 = b0 := by cases e1; rfl
  rw [← this, ← hloc1, hloc]
 refine r_store (n := 1) (by rw [(hT.ty _ _ ht).sz]; rfl) hevS hcells rfl (fun u hu => by simp only [List.mem_singleton] at hu; subst hu; exact one) hh (by rw [← hsz]; simp; omega) ?_
 have hlen1 : [D.any].length = 1 := rfl
 rw [hlen1] at htr f3
 rw [set_at_split (by simpa using hlt), List.set_set] at f3
 -- what the cell holds now
 have hd3 : (((((fr.map (unal s .any)).set s .any)).set u (.obj (cs.set off .any))).map (unac u off 1)).set u (.obj (cs.set off .any)) = (eraC u off 1 ((fr.map (unal s .any)).set s .any)).set u (.obj (cs.set off .any)) := by
  rw [eraC_eq, List.map_set, List.set_set]
 rw [hd3] at f3
 have hul : u < (eraC u off 1 ((fr.map (unal s .any)).set s .any)).length := by
  have := (List.getElem?_eq_some_iff.1 hd).1
  rw [eraC_eq]
  simpa using this
 obtain ⟨hCs, hcell⟩ := splice (cur := cur) (us := [a.eval v]) (off := off) (n := 1) rfl (by rw [← hsz]; simp; omega)
 have hheap : (w.setRow b (cur.toList.take off ++ [a.eval v] ++ cur.toList.drop (off + 1)).toArray).heap[b]? = some (.cells (cur.toList.take off ++ [a.eval v] ++ cur.toList.drop (off + 1)).toArray e (0, 0)) := setRow_heap w b cur _ e (0, 0) hh
 have f4 := f3.recell (List.getElem?_set_self hul) off (r0 := .sl (m + 1) sz rows) (fun y hy => ?_) (fun t => no_men_sl)
 ·rw [List.set_set, List.set_set] at f4
  exact hK _ S1 _ a hs (t1.trans htr) f4
 ·rw [hloc, cell_of_row _ b _ _ e (0, 0) hheap, hcell, if_neg (by omega), if_pos (by omega), Nat.sub_self] at hy
  cases hy
  refine r1.trans f1.wf htr rfl (fun k q l hs hu => ⟨setRow_other w b k _ (fun e => ?_), hs⟩) (fun _ => rfl) fun t ht => by cases ht
  subst e
  rw [hb'] at hs
  cases hs
  obtain ⟨_, l', hl⟩ := hu
  simp [Place.slot] at hl
theorem cellN_ok {fr : List D} {u off : Nat} (h : cellN fr u off = true) : ∃ cs d, fr[u]? = some (.obj cs) ∧ cs[off]? = some d := by
 unfold cellN at h
 split at h
 ·rename_i cs hd
  split at h
  ·rename_i d hc
   exact ⟨cs, d, hd, hc⟩
  ·cases h
 ·cases h
def TI.isOne : TI → Bool
 | .st _ _ _ => false
 | _ => true
theorem TFact.one' {P : Program} {t : Nat} {i : TI} (h : TFact P t i) (hn : i.isOne = true) : TOne P t := h.one fun n fl ks e => by subst e; cases hn
theorem loadC_sound (hT : TOk P T Z) {S : Sig} {w : World} {a : Act} {fr : List D} {ty0 u x off : Nat} {i : TI} {dst : Option Nat} {ty : TypeId} {pos : String} {after : Array Edge} {guard : Option (Nat × Bool)} {K : List D → Prop} (h : FR S w a fr) (ht : T ty0 = some i) (hi : i.isOne = true) (hx : objAt fr (.tmp x) = some (u, off)) (hc : cellN fr u off = true) (hs : putD fr dst (.alc u off) K) :
  StepOk P S w a (Oper.mk dst (.load ty0 (.tmp x)) ty pos after guard) K := by
 intro K' Q hK
 obtain ⟨cs, d, hd, hcs⟩ := cellN_ok hc
 obtain ⟨_, _, hev⟩ := h.objAt hx
 obtain ⟨y, hy, _, _, hn⟩ := h.nameC hd hcs
 haveI := (hT.ty _ _ ht).one' hi
 obtain ⟨fr', k1, k2⟩ := putNm_sound (dst := dst) (v := y) (d := .alc u off) h rfl (fun t _ => hn t) hs
 exact r_load1 hev hy (hK fr' S w _ k1 (Trans.refl S w) k2)
theorem elAt_field {s v : Value} {sz k j off : Nat} (h : ElAt s sz k j v) : ∃ b, v = .pointer (some ⟨b, k * sz + j, none⟩) ∧ ElAt s sz k (j + off) (.pointer (some ⟨b, k * sz + j + off, none⟩)) := by
 obtain ⟨b, l, c, hs, rfl⟩ := h
 exact ⟨b, rfl, b, l, c, hs, by rw [Nat.add_assoc]⟩
theorem ev_tmp' {a : Act} {t : Nat} {v : Value} (hv : a.tmps[t]? = some v) : a.eval (.tmp t) = v := by simp [Act.eval, Array.getD_eq_getD_getElem?, hv]
theorem storeNm_sound (hT : TOk P T Z) {S : Sig} {w : World} {a : Act} {fr : List D} {ty0 u : Nat} {v : Operand} {ty : TypeId} {pos : String} {after : Array Edge} {guard : Option (Nat × Bool)} {K : List D → Prop} (h : FR S w a fr) (hs : storeNm T ty0 u v fr K) : StepOk P S w a (Oper.mk none (.store ty0 (.tmp u) v) ty pos after guard) K := by
 unfold storeNm at hs
 split at hs
 ·rename_i x sz k j hd
  obtain ⟨v0, hv0, hsl⟩ := h.at hd
  split at hs
  ·rename_i sz' rows hdx
   split at hs
   ·rename_i he
    obtain rfl := Nat.eq_of_beq_eq_true he
    exact storeEs_sound hT h hv0 hsl hdx hs
   ·exact hs.elim
  ·exact hs.elim
 ·rename_i x c sz k j hd
  obtain ⟨v0, hv0, hsl⟩ := h.at hd
  split at hs
  ·rename_i cs hdx
   split at hs
   ·rename_i sz' rows hc
    split at hs
    ·rename_i he
     obtain rfl := Nat.eq_of_beq_eq_true he
     exact storeEl_sound hT h hv0 hsl hdx hc hs
    ·exact hs.elim
   ·exact hs.elim
  ·exact hs.elim
 ·exact hs.elim
theorem stepN_sound (hT : TOk P T Z) {S : Sig} {w : World} {a : Act} {fr : List D} {o : Oper} {K : List D → Prop} (h : FR S w a fr) (hs : stepN P T Z M o fr K) : StepOk P S w a o K := by
 have base : stepD P T Z M o fr K → StepOk P S w a o K := fun h' => stepD_sound hT h h'
 obtain ⟨dst, op, ty, pos, after, guard⟩ := o
 unfold stepN at hs
 simp only at hs
 split at hs
 ·split at hs
  ·exact (nameMove_sound h hs).1
  ·exact (nameMove_sound h hs).1
  ·exact (nameMove_sound h hs).1
  ·exact base hs
 ·split at hs
  ·exact (nameMove_sound h hs).2
  ·exact (nameMove_sound h hs).2
  ·exact (nameMove_sound h hs).2
  ·exact base hs
 ·split at hs
  ·rename_i hd; exact nameNil_sound h (.inl ⟨_, _, _, _, hd⟩) hs
  ·rename_i hd; exact nameNil_sound h (.inr ⟨_, _, _, _, _, hd⟩) hs
  ·exact base hs
 ·split at hs
  ·rename_i x sz k j hd
   split at hs
   ·rename_i ht
    split at hs
    ·rename_i off n ag hf
     haveI := (hT.ty _ _ ht).2.1 _ _ _ _ hf
     split at hs
     ·rename_i t
      split at hs
      ·rename_i hne
       have hne' : x ≠ t := fun e => by subst e; simp at hne
       obtain ⟨v, hv, hsl⟩ := h.at hd
       obtain ⟨⟨d', g1, g2, _⟩, s, g3, g4⟩ := hsl
       obtain ⟨b, rfl, g5⟩ := elAt_field (off := off) g4
       obtain ⟨fr', k1, k2⟩ := putNm_sound (dst := some t) (d := .es x sz k (j + off)) h rfl (fun t' e => by cases e; exact ⟨⟨d', g1, g2, hne'⟩, s, g3, g5⟩) hs
       exact fun K' Q hK => r_fieldAddr (ev_tmp' hv) (hK fr' S w _ k1 (Trans.refl S w) k2)
      ·exact hs.elim
     ·exact hs.elim
    ·exact hs.elim
   ·exact hs.elim
  ·rename_i x c sz k j hd
   split at hs
   ·rename_i ht
    split at hs
    ·rename_i off n ag hf
     haveI := (hT.ty _ _ ht).2.1 _ _ _ _ hf
     obtain ⟨v, hv, hsl⟩ := h.at hd
     obtain ⟨g1, s, g3, g4⟩ := hsl
     obtain ⟨b, rfl, g5⟩ := elAt_field (off := off) g4
     obtain ⟨fr', k1, k2⟩ := putNm_sound (dst := dst) (d := .el x c sz k (j + off)) h rfl (fun t' e => (⟨g1, s, g3, g5⟩ : SlotRep S w a fr t' _ (.el x c sz k (j + off)))) hs
     exact fun K' Q hK => r_fieldAddr (ev_tmp' hv) (hK fr' S w _ k1 (Trans.refl S w) k2)
    ·exact hs.elim
   ·exact hs.elim
  ·exact base hs
 ·rename_i t y
  split at hs
  ·rename_i u off hx
   split at hs
   ·rename_i cs hd
    split at hs
    ·rename_i sz rows hc
     split at hs
     ·rename_i e sz' by' zc ki j ht hy
      split at hs
      ·rename_i he
       obtain rfl := Nat.eq_of_beq_eq_true he
       obtain ⟨⟨h0, h1⟩, hput⟩ := hs
       haveI := (hT.ty _ _ ht).1
       haveI := (hT.ty _ _ ht).2.1
       obtain ⟨v, hv, hsl⟩ := h.at hx
       obtain ⟨v', hv', hs'⟩ := h.at hd
       have hrep := hs'.1.obj_cell hc hsl.2
       obtain ⟨q, hq⟩ := h.eval y
       rw [hy] at hq
       rcases hrep.sl_inv with ⟨_, rfl⟩ | ⟨b, cap, cur, e2, rfl, g⟩
       ·simp at h1; omega
       ·obtain ⟨fr', k1, k2⟩ := putNm_sound (dst := dst) (v := .pointer (some ⟨b, 0 + j.toNat * sz', none⟩)) (d := .el u off sz' j.toNat 0) h rfl (fun t' e => (⟨hsl.1, _, hsl.2, b, _, _, rfl, by rw [Nat.zero_add, Nat.add_zero]⟩ : SlotRep S w a fr t' _ (.el u off sz' j.toNat 0))) hput
        exact fun K' Q hK => r_indexAddr (ev_tmp' hv) hq.int_inv h0 h1 (hK fr' S w _ k1 (Trans.refl S w) k2)
      ·exact hs.elim
     ·exact hs.elim
    ·exact base hs
   ·exact base hs
  ·split at hs
   ·rename_i u hu
    split at hs
    ·split at hs
     ·rename_i sz rows hd
      split at hs
      ·rename_i e sz' by' zc ki j ht hy
       split at hs
       ·rename_i he
        obtain rfl := Nat.eq_of_beq_eq_true he
        split at hs
        ·rename_i d
         split at hs
         ·rename_i hne
          have hne' : u ≠ d := fun e => by subst e; simp at hne
          obtain ⟨⟨h0, h1⟩, hput⟩ := hs
          haveI := (hT.ty _ _ ht).1
          haveI := (hT.ty _ _ ht).2.1
          have hev := root_eval h hu
          obtain ⟨v, hv, hsl⟩ := h.at hd
          obtain rfl : v = a.eval (.tmp t) := Option.some.inj (hv.symm.trans hev)
          obtain ⟨q, hq⟩ := h.eval y
          rw [hy] at hq
          rcases hsl.1.sl_inv with ⟨_, rfl⟩ | ⟨b, cap, cur, e2, he2, g⟩
          ·simp at h1; omega
          ·obtain ⟨fr', k1, k2⟩ := putNm_sound (dst := some d) (v := .pointer (some ⟨b, 0 + j.toNat * sz', none⟩)) (d := .es u sz' j.toNat 0) h rfl (fun t' e => by cases e; exact ⟨⟨_, hd, rfl, hne'⟩, _, hv, b, _, _, he2, by rw [Nat.zero_add, Nat.add_zero]⟩) hput
           exact fun K' Q hK => r_indexAddr he2 hq.int_inv h0 h1 (hK fr' S w _ k1 (Trans.refl S w) k2)
         ·exact hs.elim
        ·exact hs.elim
       ·exact hs.elim
      ·exact hs.elim
     ·exact base hs
    ·exact base hs
   ·exact base hs
 ·split at hs
  ·rename_i x sz k j hd
   split at hs
   ·rename_i sz' rows hr
    split at hs
    ·rename_i he
     obtain rfl := Nat.eq_of_beq_eq_true he
     obtain ⟨v, hv, hsl⟩ := h.at hd
     obtain ⟨s, m, q, h1, h2⟩ := rowsN_es h hsl hr
     exact loadR_sound hT h hv h1 h2 hs
    ·exact hs.elim
   ·exact hs.elim
  ·rename_i x c sz k j hd
   split at hs
   ·rename_i sz' rows hr
    split at hs
    ·rename_i he
     obtain rfl := Nat.eq_of_beq_eq_true he
     obtain ⟨v, hv, hsl⟩ := h.at hd
     obtain ⟨s, m, q, h1, h2⟩ := rowsN_el h hsl hr
     exact loadR_sound hT h hv h1 h2 hs
    ·exact hs.elim
   ·exact hs.elim
  ·rename_i x off hd
   split at hs
   ·rename_i hc
    split at hs
    ·rename_i ht; exact loadC_sound hT h ht rfl (by simp only [objAt, hd]) hc hs
    ·rename_i ht; exact loadC_sound hT h ht rfl (by simp only [objAt, hd]) hc hs
    ·exact base hs
   ·exact base hs
  ·rename_i cs hd
   split at hs
   ·rename_i hc
    split at hs
    ·rename_i ht; exact loadC_sound hT h ht rfl (by simp only [objAt, hd]) hc hs
    ·rename_i ht; exact loadC_sound hT h ht rfl (by simp only [objAt, hd]) hc hs
    ·exact base hs
   ·exact base hs
  ·exact base hs
 ·rename_i ty0 u v
  split at hs
  ·split at hs
   ·rw [forceL_eq] at hs
    obtain ⟨S1, t1, h1⟩ := frz1_sound h v
    exact (storeNm_sound hT h1 hs).ghost t1
   ·exact hs.elim
  ·split at hs
   ·rw [forceL_eq] at hs
    obtain ⟨S1, t1, h1⟩ := frz1_sound h v
    exact (storeNm_sound hT h1 hs).ghost t1
   ·exact hs.elim
  ·split at hs
   ·split at hs
    ·unfold giveD at hs
     split at hs
     ·rename_i hx hr
      split at hs
      ·rename_i hd
       split at hs
       ·rename_i hsl
        split at hs
        ·rename_i ht
         split at hs
         ·rename_i hlt
          have hlt := Nat.lt_of_succ_le (Nat.le_of_ble_eq_true hlt)
          simp only [forceL_eq, putObj, forceH_eq] at hs
          exact give_sound hT h ht hx hr hd hsl hlt hs
         ·exact hs.elim
        ·exact hs.elim
       ·exact base hs
      ·exact base hs
     ·exact base hs
    ·exact base hs
   ·exact base hs
  ·exact base hs
 ·split at hs
  ·split at hs
   ·rename_i c hcal s xs hargs
    rw [forceL_eq] at hs
    obtain ⟨S1, t1, h1⟩ := takeN_sound h s
    exact (stepD_sound hT h1 hs).ghost t1
   ·exact hs.elim
  ·exact base hs
 ·exact base hs
end
end Go.Proofs.YtbphihljkbdfpaaGreatDoor
namespace Go.Proofs.YtbphihljkbdfpaaGreatDoor
set_option linter.unusedSimpArgs false
set_option linter.unusedVariables false
open Go.RowKit

section
variable {P : Program} {T : Nat → Option TI} {Z : Nat → Option (List Value)} {M : Nat → Bool}
theorem wanted_cond {S : Sig} {w : World} {a : Act} {fr : List D} {l : List Oper} {o : Oper} {j : Nat} {want c : Bool} (h : FR S w a fr) (hg : o.guard = some (j, want)) (hc : condOf l fr j want = some c) : Region.wanted o (yielded l.toArray a.tmps) = c := by
 unfold condOf at hc
 split at hc
 ·rename_i oj hj
  split at hc
  ·rename_i t ht
   have hy : ∀ v, a.tmps[t]? = some v → ((l.toArray[j]?).bind (·.dst)).bind (a.tmps[·]?) = some v := fun v hv => by
    simp only [List.getElem?_toArray, hj, Option.bind_some, ht, hv]
   split at hc
   ·rename_i b hd
    obtain ⟨v, hv, hs⟩ := h.at hd
    obtain rfl := hs.1.bool_inv
    refine wanted_at hg (hy _ hv) ?_
    cases want <;> simp only [Option.some.injEq] at hc <;> subst hc <;> simp [boolOf]
   ·rename_i c0 b hd
    obtain ⟨v, hv, hs⟩ := h.at hd
    obtain ⟨k1, k0⟩ := hs.1.gd_inv
    refine wanted_at hg (hy _ hv) ?_
    cases c0 with
    | true =>
     obtain rfl := (Rep.fz (S := S) (p := .dead) (k1 rfl)).bool_inv
     cases want <;> simp only [Option.some.injEq] at hc <;> subst hc <;> simp [boolOf]
    | false =>
     rw [k0 rfl]
     cases want <;> simp only [Option.some.injEq] at hc <;> subst hc <;> simp [boolOf, undef]
   ·cases hc
  ·cases hc
 ·cases hc
theorem gds_rep {S : Sig} {w : World} {a : Act} {fr : List D} (h : FR S w a fr) : ∀ (xs : List Operand), holds (gds (evalD fr) xs) → ∀ x ∈ xs, ∃ q, Rep S w q (a.eval x) (strip (evalD fr x))
 | [], _, x, hx => by cases hx
 | y :: xs, hg, x, hx => by
  simp only [gds] at hg
  have key : holds (gds (evalD fr) xs) ∧ ∃ q, Rep S w q (a.eval y) (strip (evalD fr y)) := by
   obtain ⟨q, hq⟩ := h.eval y
   split at hg
   ·rename_i c d hy
    rw [hy] at hq ⊢
    split at hg
    ·rename_i hn
     rw [hn]
     exact ⟨trivial, .dead, .fz (hq.gd_inv.1 hg)⟩
    ·rename_i p hp
     rw [hp]
     exact ⟨hg.2, .dead, .fz (hq.gd_inv.1 hg.1)⟩
   ·rename_i hn
    refine ⟨hg, q, ?_⟩
    generalize evalD fr y = d at hq hn ⊢
    cases d with
    | gd c d => exact absurd rfl (hn c d)
    | _ => exact hq
  rcases List.mem_cons.1 hx with rfl | hx
  ·exact key.2
  ·exact gds_rep h xs key.1 x hx
theorem refOk_gd {fr : List D} {c : Bool} {d : D} : RefOk fr (.gd c d) := fun t ht => by cases ht
theorem loadG_sound (hT : TOk P T Z) {S : Sig} {w : World} {a : Act} {fr : List D} {ty0 u off : Nat} {x : Operand} {c : Bool} {dst : Option Nat} {ty : TypeId} {pos : String} {after : Array Edge} {guard : Option (Nat × Bool)} {K : List D → Prop} (h : FR S w a fr) (hev : c = true → a.eval x = .pointer (some ⟨S.loc (u + 2), off, none⟩)) (hs : loadG T ty0 u off c dst fr K) :
  (c = true → StepOk P S w a (Oper.mk dst (.load ty0 x) ty pos after guard) K) ∧ (c = false → ∃ fr', K fr' ∧ FR S w (a.put dst undef) fr') := by
 have skip : ∀ {d : D}, putD fr dst (.gd c d) K → c = false → ∃ fr', K fr' ∧ FR S w (a.put dst undef) fr' := fun hp hc => by
  subst hc
  exact putD_sound h (.fz (.gd (fun e => by cases e) (fun _ => rfl))) refOk_gd hp
 unfold loadG at hs
 split at hs
 ·rename_i cs hd
  obtain ⟨cv, hcv⟩ := h.loadObj hd
  split at hs
  ·rename_i n fl ks ht
   haveI := (hT.ty _ _ ht).1
   split at hs
   ·rename_i hb
    simp only [Bool.and_eq_true] at hb
    have hle := Nat.le_of_ble_eq_true hb.1
    refine ⟨fun hc K' Q hK => ?_, fun hc => skip hs hc⟩
    have hcell : ∀ j, j < n → ∃ d, ((cs.drop off).take n)[j]? = some d ∧ w.cell? ⟨S.loc (u + 2), off + j, none⟩ = some (cv (off + j)) ∧ (cv (off + j)).oneCell' = true ∧ Fz S.lim w (cv (off + j)) d := fun j hj => by
     have hjl : off + j < cs.length := by omega
     have hg : ((cs.drop off).take n)[j]? = some cs[off + j] := by rw [List.getElem?_take, if_pos hj, List.getElem?_drop, List.getElem?_eq_getElem hjl]
     obtain ⟨h1, h2, h3⟩ := hcv _ _ (List.getElem?_eq_getElem hjl)
     exact ⟨_, hg, h1, h2, D.one_fz h3 (List.all_eq_true.1 hb.2 _ (List.mem_of_getElem? hg))⟩
    have hfz : Fz S.lim w (.agg ((List.range n).map fun j => cv (off + j)).toArray) (.agg ((cs.drop off).take n)) := by
     refine .agg _ (by simp; omega) (fun v hv => ?_) fun j d v hj hv => ?_
     ·obtain ⟨j, hj, rfl⟩ := List.mem_map.1 hv
      obtain ⟨d, _, _, h2, _⟩ := hcell j (List.mem_range.1 hj)
      exact h2
     ·have hjn : j < n := by have := (List.getElem?_eq_some_iff.1 hv).1; simpa using this
      rw [List.getElem?_map, List.getElem?_range hjn] at hv
      cases hv
      obtain ⟨d', h1, _, _, h4⟩ := hcell j hjn
      rw [hj] at h1
      cases h1
      exact h4
    obtain ⟨fr', k1, k2⟩ := putD_sound (dst := dst) h (.fz (.gd (fun _ => hfz) (fun e => by rw [hc] at e; cases e))) refOk_gd hs
    refine r_loadN (cs := (List.range n).map fun j => cv (off + j)) (hev hc) (fun j v hv => ?_) (by simp) (hK fr' S w _ k1 (Trans.refl S w) k2)
    have hjn : j < n := by have := (List.getElem?_eq_some_iff.1 hv).1; simpa using this
    rw [List.getElem?_map, List.getElem?_range hjn] at hv
    cases hv
    obtain ⟨d', _, h2, _⟩ := hcell j hjn
    exact h2
   ·exact hs.elim
  ·rename_i i hi ht
   haveI := (hT.ty _ _ ht).one (fun n fl ks e => hi n fl ks e)
   split at hs
   ·rename_i sz0 rows0 hd'
    refine ⟨fun hc K' Q hK => ?_, fun hc => skip hs hc⟩
    obtain ⟨y, hy, _, hrep, _⟩ := h.nameC hd hd'
    have hfz : Fz S.lim w y (.sl 0 sz0 rows0) := (Rep.le (.own sz0 rows0) hrep).passes rfl
    obtain ⟨fr', k1, k2⟩ := putD_sound (dst := dst) h (.fz (.gd (fun _ => hfz) (fun e => by rw [hc] at e; cases e))) refOk_gd hs
    exact r_load1 (hev hc) hy (hK fr' S w _ k1 (Trans.refl S w) k2)
   ·rename_i d _ hd'
    split at hs
    ·rename_i ho
     refine ⟨fun hc K' Q hK => ?_, fun hc => skip hs hc⟩
     obtain ⟨h1, h2, h3⟩ := hcv _ _ hd'
     have hfz := D.one_fz h3 ho
     obtain ⟨fr', k1, k2⟩ := putD_sound (dst := dst) h (.fz (.gd (fun _ => hfz) (fun e => by rw [hc] at e; cases e))) refOk_gd hs
     exact r_load1 (hev hc) h1 (hK fr' S w _ k1 (Trans.refl S w) k2)
    ·exact hs.elim
   ·exact hs.elim
  ·exact hs.elim
 ·exact hs.elim
theorem newG_frz {S : Sig} {w : World} {a : Act} {fr : List D} {t sz : Nat} {d0 : D} {v : Value} {rows : List (List D)} (h : FR S w a fr) (hd : fr[t]? = some d0) (hn : d0.isObj = false) (hr : Rep S w (dstPlace (some t)) v (.sl 2 sz rows)) :
  ∃ S', Trans S w S' w ∧ FR S' w a ((fr.map (unal t .any)).set t .any) ∧ Fz S'.lim w v (.sl 0 sz rows) := by
 rcases hr.sl_inv with ⟨rfl, rfl⟩ | ⟨b, cap, cur, e, rfl, g⟩
 ·exact ⟨S, Trans.refl S w, h.forget hd hn, .slNil 0 sz⟩
 ·have hb : BT S w (S.set b none) w b := BT.ghost h.wf g.own (by simp [dstPlace, Place.slot]) (fun y hy => by cases hy)
  have hf : Fz (S.set b none).lim w (.slice (some ⟨b, 0, none⟩) rows.length cap) (.sl 0 sz rows) := g.fz2 (fun h => h.trans hb.tr) rfl (fun k _ s hs => by simp [Sig.lim, S.set_at] at hs)
  exact ⟨_, hb.tr, h.rebuild hb g.own rfl hd hn (fun v' p hv' => .fz (.any _)) (fun t ht => by cases ht) (fun v' hv' => .fz (.any _)) (fun t ht => by cases ht), hf⟩
/-- One operation under a guard: carried out or passed over. -/
theorem gstep_sound (hT : TOk P T Z) {S : Sig} {w : World} {a : Act} {fr : List D} {o : Oper} {c : Bool} {K : List D → Prop} (h : FR S w a fr) (hs : gstepD P T Z o c fr K) :
  (c = true → StepOk P S w a o K) ∧ (c = false → ∃ fr', K fr' ∧ FR S w (a.put o.dst undef) fr') := by
 obtain ⟨dst, op, ty, pos, after, guard⟩ := o
 have skip : ∀ {d : D}, putD fr dst (.gd c d) K → c = false → ∃ fr', K fr' ∧ FR S w (a.put dst undef) fr' := fun hp hc => by
  subst hc
  exact putD_sound h (.fz (.gd (fun e => by cases e) (fun _ => rfl))) refOk_gd hp
 have rest : ∀ {xs : List Operand}, xs = op.operands.toList → (opD P T Z (fun x => strip (evalD fr x)) op fun s d => andO (under c (gds (evalD fr) xs) s) (match d.passes with | true => putD fr dst (.gd c d) K | false => newG dst c d fr K)) →
   (c = true → StepOk P S w a ⟨dst, op, ty, pos, after, guard⟩ K) ∧ (c = false → ∃ fr', K fr' ∧ FR S w (a.put dst undef) fr') := by
  intro xs hxs hs
  subst hxs
  obtain ⟨s, d, h1, h3⟩ := opD_sound (dst := dst) (ty := ty) (pos := pos) (after := after) (guard := guard) hT hs
  obtain ⟨hu, h2⟩ := andO_iff.1 h1
  clear h1
  split at h2
  ·rename_i hp
   refine ⟨fun hc => ?_, fun hc => skip h2 hc⟩
   obtain ⟨hg, hs'⟩ := under_holds hu hc
   intro K' Q hK
   refine h3 hs' S w a (dstPlace dst) h.wf (fun x hx => gds_rep h _ hg x hx) K' Q fun v S' w' hpt hr hm => ?_
   obtain ⟨fr', k1, k2⟩ := putD_sound (v := v) (h.drop hpt) (.fz (.gd (fun _ => hr.passes hp) (fun e => by rw [hc] at e; cases e))) refOk_gd h2
   exact hK fr' S' w' _ k1 hpt.trans k2
  ·unfold newG at h2
   split at h2
   ·rename_i sz rows t _ _
    split at h2
    ·rename_i d0 hd0
     split at h2
     ·rename_i hob
      rw [forceL_eq] at h2
      refine ⟨fun hc => ?_, fun hc => ?_⟩
      ·obtain ⟨hg, hs'⟩ := under_holds hu hc
       intro K' Q hK
       refine h3 hs' S w a (dstPlace (some t)) h.wf (fun x hx => gds_rep h _ hg x hx) K' Q fun v S' w' hpt hr hm => ?_
       obtain ⟨S2, t2, f2, z2⟩ := newG_frz (h.drop hpt) hd0 hob hr
       obtain ⟨fr', k1, k2⟩ := putD_sound (dst := some t) (v := v) f2 (.fz (.gd (fun _ => z2) (fun e => by rw [hc] at e; cases e))) refOk_gd h2
       exact hK fr' S2 w' _ k1 (hpt.trans.trans t2) k2
      ·subst hc
       exact putD_sound (dst := some t) (h.forget hd0 hob) (.fz (.gd (fun e => by cases e) (fun _ => rfl))) refOk_gd h2
     ·exact h2.elim
    ·exact h2.elim
   ·exact h2.elim
 have tmp_ev : ∀ {t : Nat} {v : Value}, a.tmps[t]? = some v → a.eval (.tmp t) = v := fun hv => by simp [Act.eval, Array.getD_eq_getD_getElem?, hv]
 unfold gstepD at hs
 simp only at hs
 split at hs
 ·rename_i cc x y
  obtain ⟨s, r, hp, h12⟩ := pickD_inv hs
  obtain ⟨h1, h2⟩ := andO_iff.1 h12
  refine ⟨fun hc => ?_, fun hc => skip h2 hc⟩
  obtain ⟨hg, hs'⟩ := under_holds h1 hc
  obtain ⟨p, h3, h4⟩ := pickR_sound (gds_rep h [cc] hg cc (by simp)) (h.eval _) (h.eval _) hp hs'
  intro K' Q hK
  refine pick_run h3 ?_
  rw [h4]
  obtain ⟨fr', k1, k2⟩ := putD_sound (v := .bool r) h (.fz (.gd (fun _ => .bool r) (fun e => by rw [hc] at e; cases e))) refOk_gd h2
  exact hK fr' S w _ k1 (Trans.refl S w) k2
 ·rename_i ty0 u i
  split at hs
  ·rename_i ds hd
   split at hs
   ·rename_i ht
    split at hs
    ·rename_i off n ag hfl
     haveI := (hT.ty _ _ ht).2.1 _ _ _ _ hfl
     obtain ⟨r1, r2, _⟩ := ref_rep h hd off
     obtain ⟨_, _, r3⟩ := ref_rep h hd 0
     have hown : S.own (S.loc (u + 2)) = some (.slot u, 0) := by
      obtain ⟨v0, hv0, hs0⟩ := h.at hd
      obtain ⟨b, cur, e, _, hb, hloc, _⟩ := hs0.1.obj_inv
      rw [hloc]
      exact hb
     have hro : RefOk fr (.gref c u off) := fun t ht => by cases ht; exact ⟨ds, hd⟩
     refine ⟨fun hc K' Q hK => ?_, fun hc => ?_⟩
     ·obtain ⟨fr', k1, k2⟩ := putD_sound (dst := dst) (v := .pointer (some ⟨S.loc (u + 2), off, none⟩)) h (.gref hown (by rw [if_pos hc])) hro hs
      refine r_fieldAddr (tmp_ev r3) (by rw [Nat.zero_add]; exact hK fr' S w _ k1 (Trans.refl S w) k2)
     ·exact putD_sound h (.gref hown (by rw [if_neg (by rw [hc]; decide)])) hro hs
    ·exact hs.elim
   ·exact hs.elim
  ·exact rest rfl hs
 ·rename_i ty0 x
  split at hs
  ·rename_i c' u off hd
   obtain ⟨hcc, hs⟩ := hs
   obtain ⟨v, hv, hsl⟩ := h.at hd
   refine loadG_sound hT h (fun hc => ?_) hs
   rw [tmp_ev hv]
   cases hsl.1 with
   | fz h => cases h
   | gref g hv => rw [hv, if_pos (hcc hc)]
  ·rename_i ds hd
   obtain ⟨_, _, r3⟩ := ref_rep h hd 0
   exact loadG_sound hT h (fun _ => tmp_ev r3) hs
  ·exact rest rfl hs
 ·exact rest rfl hs
theorem prepG_sound {S : Sig} {w : World} {a : Act} {fr : List D} (h : FR S w a fr) (o : Oper) : ∃ S', Trans S w S' w ∧ FR S' w a (prepG o fr) := by
 have key : ∀ u off, ∃ S', Trans S w S' w ∧ FR S' w a (downC1 u off fr) := fun u off => by
  unfold downC1
  split
  ·rename_i hd
   split
   ·rename_i hc; exact h.downC hd hc
   ·exact ⟨S, Trans.refl S w, h⟩
  ·exact ⟨S, Trans.refl S w, h⟩
 unfold prepG
 split
 ·split
  ·exact key _ _
  ·exact key _ _
  ·exact ⟨S, Trans.refl S w, h⟩
 ·exact ⟨S, Trans.refl S w, h⟩
theorem vcOps_sound (hT : TOk P T Z) {l : List Oper} {Q : Exit → Act → World → Prop} {K : List D → Prop} : ∀ (r : List Oper) {S : Sig} {w : World} {a : Act} {fr : List D}, FR S w a fr → vcOps P T Z M l r fr K →
  (∀ fr' S' w' a', K fr' → Trans S w S' w' → FR S' w' a' fr' → Q .normal a' w') → wpList P l.toArray Q r a w
 | [], S, w, a, fr, h, hs, hK => wpList_nil (hK fr S w a hs (Trans.refl S w) h)
 | [o], S, w, a, fr, h, hs, hK => by
  simp only [vcOps] at hs
  split at hs
  ·rename_i hg
   refine wpList_plain hg fun K' hK' => stepN_sound hT h hs K' Q fun fr' S' w' a' k t f => hK' _ _ (wpList_nil (hK fr' S' w' a' k t f))
  ·rename_i j want hg
   split at hs
   ·rename_i c hc
    have hw := wanted_cond h hg hc
    rw [forceL_eq] at hs
    obtain ⟨S1, t1, h1⟩ := prepG_sound h o
    obtain ⟨g1, g0⟩ := gstep_sound hT h1 hs
    unfold wpList
    rw [hw]
    cases c with
    | true =>
     rw [if_pos rfl]
     exact .inl (g1 rfl _ Q fun fr' S' w' a' k t f => wpList_nil (hK fr' S' w' a' k (t1.trans t) f))
    | false =>
     rw [if_neg (by simp)]
     obtain ⟨fr', k, f⟩ := g0 rfl
     exact wpList_nil (hK fr' S1 w _ k t1 f)
   ·exact hs.elim
 | o :: o2 :: r, S, w, a, fr, h, hs, hK => by
  simp only [vcOps] at hs
  split at hs
  ·rename_i hg
   split at hs
   ·rename_i ty hfa
    have hop : o.op = .alloc ty := by
     unfold isFrzAlloc at hfa
     split at hfa
     ·rename_i ty' hop
      split at hfa
      ·split at hfa
       ·cases hfa
       ·cases hfa; exact hop
      ·cases hfa
     ·cases hfa
    exact pairD_sound hT h hop hs hg fun fr' S' w' a' k t f => vcOps_sound hT r f k fun fr'' S'' w'' a'' k2 t2 f2 => hK fr'' S'' w'' a'' k2 (t.trans t2) f2
   ·refine wpList_plain hg fun K' hK' => stepN_sound hT h hs K' Q fun fr' S' w' a' k t f => hK' _ _ ?_
    exact vcOps_sound hT (o2 :: r) f k fun fr'' S'' w'' a'' k2 t2 f2 => hK fr'' S'' w'' a'' k2 (t.trans t2) f2
  ·rename_i j want hg
   split at hs
   ·rename_i c hc
    have hw := wanted_cond h hg hc
    rw [forceL_eq] at hs
    obtain ⟨S1, t1, h1⟩ := prepG_sound h o
    obtain ⟨g1, g0⟩ := gstep_sound hT h1 hs
    unfold wpList
    rw [hw]
    cases c with
    | true =>
     rw [if_pos rfl]
     exact .inl (g1 rfl _ Q fun fr' S' w' a' k t f => vcOps_sound hT (o2 :: r) f k fun fr'' S'' w'' a'' k2 t2 f2 => hK fr'' S'' w'' a'' k2 ((t1.trans t).trans t2) f2)
    | false =>
     rw [if_neg (by simp)]
     obtain ⟨fr', k, f⟩ := g0 rfl
     exact vcOps_sound hT (o2 :: r) f k fun fr'' S'' w'' a'' k2 t2 f2 => hK fr'' S'' w'' a'' k2 (t1.trans t2) f2
   ·exact hs.elim
end
end Go.Proofs.YtbphihljkbdfpaaGreatDoor
namespace Go.Proofs.YtbphihljkbdfpaaGreatDoor
set_option linter.unusedSimpArgs false
set_option linter.unusedVariables false
open Go.RowKit

def frz1d : D → D
 | .sl _ sz rows => .sl 0 sz rows
 | .mp _ _ => .any
 | d => d
def D.frz : D → D
 | .sl _ sz rows => .sl 0 sz rows
 | .mp _ _ => .any
 | .agg cs => .agg (cs.map frz1d)
 | .tup ds => .tup (ds.map fun d => match d with
  | .agg cs => .agg (cs.map frz1d)
  | d => frz1d d)
 | d => d
def frzQ (d : D) : D := match d.passes with
 | true => d
 | false => d.frz
/-- May it stand among operations whose order is open? -/
def okQ (d : D) : Bool := match d.passes with
 | true => true
 | false => match d with
  | .tup ds => ds.all fun d => match d with
   | .agg cs => cs.all D.calm1
   | d => d.calm1
  | .agg cs => cs.all D.calm1
  | .sl _ _ _ => true
  | _ => false
def evalQ (fr0 fr : List D) : Operand → D
 | .tmp t => match fr[t]? with
  | some (.al u) => (fr0[u]?).getD .any
  | some (.obj cs) => match fr0[t]? with
   | some (.obj _) => .obj cs
   | _ => .any
  | some d => d
  | none => .any
 | x => evalD [] x
def stepQ (P : Program) (T : Nat → Option TI) (Z : Nat → Option (List Value)) (all : List Oper) (cs : Nat) (fr0 fr : List D) (o : Oper) (K : D → Prop) : Prop :=
 match o.guard with
 | none => match o.op with
  | .move (.tmp u) => match Nat.beq u cs with
   | true => match fr0[u]? with
    | some _ => K (.al u)
    | none => False
   | false => match fr[u]? with
    | some (.sl (_ + 1) _ _) => match fr0[u]? with
     | some (.sl (_ + 1) _ _) => K (.al u)
     | _ => False
    | some (.al u') => match Nat.beq u' cs with
     | true => match fr0[u']? with
      | some _ => K (.al u')
      | none => False
     | false => match fr0[u']? with
      | some (.sl (_ + 1) _ _) => K (.al u')
      | _ => False
    | _ => opD P T Z (evalQ fr0 fr) o.op fun s d => andO s (match okQ d with
     | true => force (frzQ d) K
     | false => False)
  | .pick c x y => pickD (evalQ fr0 fr c) x y (evalQ fr0 fr) fun s d => andO s (force d K)
  | .alloc ty => match Z ty with
   | some zc => match zc.all Value.oneCell' with
    | true => force (.obj (zeroD zc)) K
    | false => False
   | none => False
  | .fieldAddr ty (.tmp u) i => match fr0[u]? with
   | some (.obj _) => match T ty with
    | some (.st _ fl _) => match fl[i]? with
     | some (off, _ + 1, _) => K (.ref u off)
     | _ => False
    | _ => False
   | _ => opD P T Z (evalQ fr0 fr) o.op fun s d => andO s (match okQ d with
    | true => force (frzQ d) K
    | false => False)
  | _ => opD P T Z (evalQ fr0 fr) o.op fun s d => andO s (match okQ d with
   | true => force (frzQ d) K
   | false => False)
 | some (j, want) => match condOf all fr j want with
  | some c => match o.op with
   | .pick cc x y => pickD (strip (evalQ fr0 fr cc)) x y (evalQ fr0 fr) fun s d => andO (under c (gds (evalQ fr0 fr) [cc]) s) (K (.gd c d))
   | op => opD P T Z (fun x => strip (evalQ fr0 fr x)) op fun s d => andO (under c (gds (evalQ fr0 fr) op.operands.toList) s) (match d.passes with
    | true => force (.gd c d) K
    | false => False)
  | none => False
/-- The one that is handed what the slot owns. -/
def writeQ (P : Program) (cs : Nat) (d0 : D) (fr0 fr : List D) (o : Oper) (K : D → Prop) : Prop :=
 match o.guard with
 | some _ => False
 | none => match o.op with
  | .call c => match c.callee with
   | .value (.func f) => match c.args.toList with
    | .tmp t :: xs => match Nat.beq t cs || (match fr[t]? with | some (.al u) => Nat.beq u cs | _ => false) with
     | true => match d0 with
      | .sl (m + 1) sz rows => CallO fun d out => SideD (GivesO P f (.sl (m + 1) sz rows) (xs.map (evalQ fr0 fr)) d out) (match okQ d with
       | true => force (frzQ d) K
       | false => False)
      | _ => False
     | false => False
    | _ => False
   | _ => False
  | _ => False
def vcQ (P : Program) (T : Nat → Option TI) (Z : Nat → Option (List Value)) (all : List Oper) (k cs : Nat) (d0 : D) (fr0 : List D) : Nat → List Oper → List D → (List D → Prop) → Prop
 | _, [], fr, K => K fr
 | i, o :: r, fr, K =>
  let K' := fun d => match o.dst with
   | none => vcQ P T Z all k cs d0 fr0 (i + 1) r fr K
   | some t => match fr[t]? with
    | some d1 => match d1.owns || Nat.beq t cs with
     | false => forceL (fr.set t d) fun fr => vcQ P T Z all k cs d0 fr0 (i + 1) r fr K
     | true => False
    | none => False
  match Nat.beq i k with
  | false => stepQ P T Z all cs fr0 fr o K'
  | true => writeQ P cs d0 fr0 fr o K'

section
variable {P : Program} {T : Nat → Option TI} {Z : Nat → Option (List Value)}
theorem fresh_place (S : Sig) (w : World) (hw : WF S w) : ∃ p : Place, p.r ≠ 0 ∧ p.path ≠ [] ∧ ∀ b x, S.own b = some x → ¬ x.1.under p := by
 have key : ∀ n, ∃ N, ∀ b x, b < n → S.own b = some x → ∀ y ∈ x.1.path, y < N := by
  intro n
  induction n with
  | zero => exact ⟨0, fun b x hb => by omega⟩
  | succ n ih =>
   obtain ⟨N, hN⟩ := ih
   have hl : ∀ l : List Nat, ∃ M, ∀ y ∈ l, y < M := by
    intro l
    induction l with
    | nil => exact ⟨0, fun y hy => by cases hy⟩
    | cons x l ih =>
     obtain ⟨M, hM⟩ := ih
     exact ⟨max M (x + 1), fun y hy => by
      rcases List.mem_cons.1 hy with rfl | hy
      ·omega
      ·have := hM y hy; omega⟩
   cases ho : S.own n with
   | none => exact ⟨N, fun b x hb hx => by
     by_cases hbn : b = n
     ·subst hbn; rw [ho] at hx; cases hx
     ·exact hN b x (by omega) hx⟩
   | some z =>
    obtain ⟨M, hM⟩ := hl z.1.path
    exact ⟨max N M, fun b x hb hx y hy => by
     by_cases hbn : b = n
     ·subst hbn; rw [ho] at hx; cases hx; have := hM y hy; omega
     ·have := hN b x (by omega) hx y hy; omega⟩
 obtain ⟨N, hN⟩ := key w.heap.size
 refine ⟨⟨2, [N]⟩, by simp, by simp, fun b x hx hu => ?_⟩
 obtain ⟨_, l, hl⟩ := hu
 have := hN b x (hw b x hx) hx N (by rw [hl]; simp)
 omega
theorem Fz.frz1 {lim : Nat → Option Nat} {w : World} {v : Value} {d : D} (h : Fz lim w v d) : Fz lim w v (frz1d d) := by
 cases d with
 | sl m sz rows =>
  cases h with
  | slNil => exact .slNil 0 sz
  | slE => exact .slE _ sz
  | sl cv a1 a2 a3 a4 a5 => exact .sl cv a1 a2 a3 a4 a5
 | mp es => exact .any _
 | _ => exact h
/-- What was made meanwhile is nobody's. -/
theorem unown {S S' : Sig} {w w' : World} (hw : WF S w) (hp : PT S w S' w') {p : Place} (hf : ∀ b x, S.own b = some x → ¬ x.1.under p) {v : Value} {d : D} (hr : Rep S' w' p v d) (ho : okQ d = true) : Fz S.lim w' v (frzQ d) := by
 have hlim : ∀ {v : Value} {d : D}, Fz S'.lim w' v d → Fz S.lim w' v d := fun h => h.mono fun b o v hc hk s hs => by
  by_cases hb : b < w.heap.size
  ·refine hk s ?_
   simp only [Sig.lim, hp.own b hb]
   exact hs
  ·exfalso
   simp only [Sig.lim] at hs
   cases hx : S.own b with
   | none => rw [hx] at hs; cases hs
   | some x => exact hb (hw b x hx)
 have one : ∀ {q : Place} {v : Value} {d : D}, q.under p → Rep S' w' q v d → d.calm1 = true → Fz S.lim w' v (frz1d d) := by
  intro q v d hq hr hc
  cases hr with
  | fz h => exact hlim h.frz1
  | @own _ b cap m sz rows cur e g =>
   have hb : ¬ b < w.heap.size := fun hb => hf b _ ((hp.own b hb).symm.trans g.own) hq
   have hnone : S.own b = none := by
    cases hx : S.own b with
    | none => rfl
    | some x => exact absurd (hw b x hx) hb
   exact g.fz2 hlim rfl fun k _ s hs => by simp [Sig.lim, hnone] at hs
  | mp => exact .any _
  | obj => cases hc
  | ref => cases hc
  | gref => cases hc
  | fn => cases hc
  | agg => cases hc
  | tup => cases hc
 have agg : ∀ {q : Place} {v : Value} {cs : List D}, q.under p → Rep S' w' q v (.agg cs) → cs.all D.calm1 = true → Fz S.lim w' v (.agg (cs.map frz1d)) := by
  intro q v cs hq hr hc
  obtain ⟨vs, rfl, h1, h2, h3⟩ := hr.agg_inv
  refine .agg vs (by simp [h1]) h2 fun j d u hd hu => ?_
  rw [List.getElem?_map] at hd
  cases hcj : cs[j]? with
  | none => rw [hcj] at hd; cases hd
  | some e =>
   rw [hcj] at hd
   cases hd
   exact one (Place.under_trans (Place.at_under _ j) hq) (h3 j e u hcj hu) (List.all_eq_true.1 hc e (List.mem_of_getElem? hcj))
 unfold frzQ
 split
 ·rename_i hpass
  exact hlim (hr.passes hpass)
 ·rename_i hpass
  unfold okQ at ho
  rw [hpass] at ho
  simp only at ho
  split at ho
  ·rename_i ds
   obtain ⟨vs, rfl, h1, h3⟩ := hr.tup_inv
   refine .tup vs (by simp [h1]) fun j d u hd hu => ?_
   rw [List.getElem?_map] at hd
   cases hcj : ds[j]? with
   | none => rw [hcj] at hd; cases hd
   | some e =>
    rw [hcj] at hd
    cases hd
    have hc1 := List.all_eq_true.1 ho e (List.mem_of_getElem? hcj)
    have h4 := h3 j e u hcj hu
    have hu' := Place.at_under p j
    cases e with
    | agg cs => exact agg hu' h4 hc1
    | _ => exact one hu' h4 hc1
  ·exact agg (Place.under_refl p) hr ho
  ·exact one (Place.under_refl p) hr rfl
  ·cases ho
/-- What is left when the slot's things are nobody's. -/
def Sig.drop (S : Sig) (u : Nat) : Sig := ⟨fun b => match mine u (S.own b) with
 | true => none
 | false => S.own b, S.loc⟩
theorem drop_own {S : Sig} {u b : Nat} (h : mine u (S.own b) = false) : (S.drop u).own b = S.own b := by
 simp only [Sig.drop, h]
theorem drop_some {S : Sig} {u b : Nat} {x : Place × Nat} (h : (S.drop u).own b = some x) : S.own b = some x ∧ mine u (S.own b) = false := by
 simp only [Sig.drop] at h
 split at h
 ·cases h
 ·exact ⟨h, by assumption⟩
theorem drop_lim {S : Sig} {u : Nat} {w : World} {v : Value} {d : D} (h : Fz S.lim w v d) : Fz (S.drop u).lim w v d := h.mono fun b o v _ hk s hs => by
 simp only [Sig.lim] at hs
 cases hx : (S.drop u).own b with
 | none => rw [hx] at hs; cases hs
 | some x =>
  rw [hx] at hs
  exact hk s (by simp only [Sig.lim]; rw [(drop_some hx).1]; exact hs)
theorem drop_wf {S : Sig} {u : Nat} {w : World} (h : WF S w) : WF (S.drop u) w := ⟨fun b x hx => h b x (drop_some hx).1, h.gl.sig fun b hb => by
 cases hx : (S.drop u).own b with
 | none => rfl
 | some x => rw [(drop_some hx).1] at hb; cases hb⟩
/-- What a call left that was handed the slot's things. -/
theorem unhand {S S' : Sig} {w w' : World} {u : Nat} (hw : WF S w) (ht : Trans (S.hand u) w S' w') {v : Value} {d : D} (hr : Rep S' w' .res v d) (ho : okQ d = true) : Fz (S.drop u).lim w' v (frzQ d) := by
 have hold : ∀ b x, (S.drop u).own b = some x → S'.own b = some (.dead, x.2) := fun b x hx => by
  obtain ⟨h1, h2⟩ := drop_some hx
  have := (hand_old ht (hw b x h1) h2).2
  rw [this, h1]
  rfl
 have hlim : ∀ {v : Value} {d : D}, Fz S'.lim w' v d → Fz (S.drop u).lim w' v d := fun h => h.mono fun b o v hc hk s hs => by
  simp only [Sig.lim] at hs
  cases hx : (S.drop u).own b with
  | none => rw [hx] at hs; cases hs
  | some x =>
   rw [hx] at hs
   refine hk s ?_
   simp only [Sig.lim]
   rw [hold b x hx]
   exact hs
 have one : ∀ {q : Place} {v : Value} {d : D}, q.r = 1 → Rep S' w' q v d → d.calm1 = true → Fz (S.drop u).lim w' v (frz1d d) := by
  intro q v d hq hr hc
  cases hr with
  | fz h => exact hlim h.frz1
  | @own _ b cap m sz rows cur e g =>
   have hnone : (S.drop u).own b = none := by
    cases hx : (S.drop u).own b with
    | none => rfl
    | some x =>
     have h1 := hold b x hx
     rw [g.own] at h1
     have h2 := congrArg Prod.fst (Option.some.inj h1)
     simp only at h2
     rw [h2] at hq
     cases hq
   exact g.fz2 hlim rfl fun k _ s hs => by simp [Sig.lim, hnone] at hs
  | mp => exact .any _
  | obj => cases hc
  | ref => cases hc
  | gref => cases hc
  | fn => cases hc
  | agg => cases hc
  | tup => cases hc
 have agg : ∀ {q : Place} {v : Value} {cs : List D}, q.r = 1 → Rep S' w' q v (.agg cs) → cs.all D.calm1 = true → Fz (S.drop u).lim w' v (.agg (cs.map frz1d)) := by
  intro q v cs hq hr hc
  obtain ⟨vs, rfl, h1, h2, h3⟩ := hr.agg_inv
  refine .agg vs (by simp [h1]) h2 fun j d u hd hu => ?_
  rw [List.getElem?_map] at hd
  cases hcj : cs[j]? with
  | none => rw [hcj] at hd; cases hd
  | some e =>
   rw [hcj] at hd
   cases hd
   exact one (q := q.at j) hq (h3 j e u hcj hu) (List.all_eq_true.1 hc e (List.mem_of_getElem? hcj))
 unfold frzQ
 split
 ·rename_i hpass
  exact hlim (hr.passes hpass)
 ·rename_i hpass
  unfold okQ at ho
  rw [hpass] at ho
  simp only at ho
  split at ho
  ·rename_i ds
   obtain ⟨vs, rfl, h1, h3⟩ := hr.tup_inv
   refine .tup vs (by simp [h1]) fun j d u hd hu => ?_
   rw [List.getElem?_map] at hd
   cases hcj : ds[j]? with
   | none => rw [hcj] at hd; cases hd
   | some e =>
    rw [hcj] at hd
    cases hd
    have hc1 := List.all_eq_true.1 ho e (List.mem_of_getElem? hcj)
    have h4 := h3 j e u hcj hu
    cases e with
    | agg cs => exact agg (q := Place.res.at j) rfl h4 hc1
    | _ => exact one (q := Place.res.at j) rfl h4 hc1
  ·exact agg rfl hr ho
  ·exact one rfl hr rfl
  ·cases ho
end
end Go.Proofs.YtbphihljkbdfpaaGreatDoor
namespace Go.Proofs.YtbphihljkbdfpaaGreatDoor
set_option linter.unusedSimpArgs false
set_option linter.unusedVariables false
open Go.RowKit

/-- A variable that is new. -/
def NewB (S : Sig) (n0 : Nat) (cs : List D) (v : Value) (w : World) : Prop := ∃ (b : Nat) (e : TypeId) (zc : List Value), v = .pointer (some ⟨b, 0, none⟩) ∧ n0 ≤ b ∧ S.own b = none ∧ w.heap[b]? = some (.cells zc.toArray e (0, 0)) ∧ cs = zeroD zc ∧ zc.all Value.oneCell' = true
def Fact (S : Sig) (n0 : Nat) (a0 : Act) (d : D) (v : Value) (w : World) : Prop := WF S w ∧ match d with
 | .al u => v = a0.eval (.tmp u)
 | .ref u off => v = .pointer (some ⟨S.loc (u + 2), off, none⟩)
 | .obj cs => NewB S n0 cs v w
 | d => Fz S.lim w v d
theorem NewB.mono {S : Sig} {n0 : Nat} {cs : List D} {v : Value} {w w' : World} (hx : Ext w w') (h : NewB S n0 cs v w) : NewB S n0 cs v w' := by
 obtain ⟨b, e, zc, h1, h2, h3, h4, h5⟩ := h
 have hb : b < w.heap.size := (Array.getElem?_eq_some_iff.1 h4).1
 exact ⟨b, e, zc, h1, h2, h3, (hx.block hb).trans h4, h5⟩
theorem Fact.mono {S : Sig} {n0 : Nat} {a0 : Act} {d : D} {v : Value} {w w' : World} (hx : Ext w w') (h : Fact S n0 a0 d v w) : Fact S n0 a0 d v w' := by
 have hp := PT.ext' h.1 hx
 refine ⟨hp.wf, ?_⟩
 have h2 := h.2
 cases d with
 | al u => exact h2
 | ref u off => exact h2
 | obj cs => exact NewB.mono hx h2
 | _ => exact h2.trans hp.trans
def factSpec (S : Sig) (n0 : Nat) (a0 : Act) (d : D) : Spec := ⟨fun u => u.2.2, fun u w => Fact S n0 a0 d u.2.2 w, fun _ _ _ hx h => h.mono hx⟩
/-- Memory but for what the slot owns. -/
structure Rw (S : Sig) (u : Nat) (w w' : World) : Prop where
 os : w'.os = w.os
 tape : w'.tape = w.tape
 output : w'.output = w.output
 size : w.heap.size ≤ w'.heap.size
 same : ∀ b, b < w.heap.size → mine u (S.own b) = false → w'.heap[b]? = w.heap[b]?
 held : ∀ b p l, S.own b = some (p, l) → p.r = u + 2 → Keeps l w.heap[b]? w'.heap[b]?
theorem Rw.ext {S : Sig} {u : Nat} {w w' : World} (h : Ext w w') : Rw S u w w' := by
 refine ⟨h.os, h.tape, h.output, h.sizeOf, fun b hb _ => h.block hb, fun b p l _ _ => ?_⟩
 by_cases hb : b < w.heap.size
 ·exact Keeps.of_eq (h.block hb)
 ·intro cur e fz hh
  rw [Array.getElem?_eq_none (by omega)] at hh
  cases hh
theorem Rw.comp {S : Sig} {u : Nat} {a b c : World} (h : Rw S u a b) (k : Rw S u b c) : Rw S u a c :=
 ⟨k.os.trans h.os, k.tape.trans h.tape, k.output.trans h.output, Nat.le_trans h.size k.size, fun i hi hn => (k.same i (Nat.lt_of_lt_of_le hi h.size) hn).trans (h.same i hi hn), fun i p l hl hr => (h.held i p l hl hr).trans (k.held i p l hl hr) (Nat.le_refl _)⟩
theorem Rw.wf {S : Sig} {u : Nat} {w w' : World} (h : Rw S u w w') (hw : WF S w) : WF S w' := ⟨fun b x hx => Nat.lt_of_lt_of_le (hw b x hx) h.size, hw.gl.keep fun b hb hn => ⟨h.same b hb (by rw [hn]; rfl), hn⟩⟩
theorem Rw.to {S : Sig} {u : Nat} {w w' : World} (h : Rw S u w w') {S' : Sig} (hS : S' = S ∨ S' = S.drop u) : Trans S w S' w' := by
 refine ⟨h.os, h.tape, h.output, h.size, fun b hb hn => ?_, fun b p l hb hs hd => ?_, fun b p l hb hs => ?_, by rcases hS with rfl | rfl <;> rfl⟩
 ·have hno : mine u (S.own b) = false := by rw [hn]; rfl
  refine ⟨h.same b hb hno, ?_⟩
  rcases hS with rfl | rfl
  ·exact hn
  ·rw [drop_own hno, hn]
 ·have hno : mine u (S.own b) = false := by rw [hs]; simp [mine, hd]
  refine ⟨h.same b hb hno, ?_⟩
  rcases hS with rfl | rfl
  ·exact hs
  ·rw [drop_own hno, hs]
 ·refine ⟨?_, fun x hx => ?_⟩
  ·by_cases hno : mine u (S.own b) = false
   ·exact Keeps.of_eq (h.same b hb hno)
   ·have hq : p.r = u + 2 := by rw [hs] at hno; simpa [mine] using hno
    exact h.held b p l hs hq
  ·have : S.own b = some x := by
    rcases hS with rfl | rfl
    ·exact hx
    ·exact (drop_some hx).1
   rw [hs] at this
   cases this
   exact Nat.le_refl _
/-- What lies at another slot stays. -/
theorem Rw.rep {S : Sig} {u : Nat} {w w' : World} (h : Rw S u w w') (hw : WF S w) {S' : Sig} (hS : S' = S ∨ S' = S.drop u) {fr : List D} (hno : ∀ cs, fr[u]? ≠ some (.obj cs)) {i : Nat} (hi : i ≠ u) {v : Value} {e : D} (hr : Rep S w (.slot i) v e) (hf : RefOk fr e) : Rep S' w' (.slot i) v e := by
 have old : ∀ b q l, S.own b = some (q, l) → q.r ≠ u + 2 → w'.heap[b]? = w.heap[b]? ∧ S'.own b = some (q, l) := fun b q l hs hq => by
  have hno : mine u (S.own b) = false := by rw [hs]; simp [mine, hq]
  refine ⟨h.same b (hw _ _ hs) hno, ?_⟩
  rcases hS with rfl | rfl
  ·exact hs
  ·rw [drop_own hno, hs]
 have hloc : S'.loc = S.loc := by rcases hS with rfl | rfl <;> rfl
 refine hr.trans hw (h.to hS) (by rw [hloc]) (fun b q l hs hu => old b q l hs fun e => ?_) (fun _ => by rw [hloc]) fun t hm ho => ⟨by rw [hloc], (old _ _ _ ho fun e => ?_).2⟩
 ·have := hu.1
  simp only [Place.slot] at this
  omega
 ·obtain ⟨cs, hc⟩ := hf t hm
  simp only [Place.slot] at e
  have : t = u := by omega
  subst this
  exact hno cs hc
/-- Who comes behind the writer. -/
def lateOf (l : Array Oper) (c : Nat) (i : Nat) : Bool := decide (i = c) || reachB l l.size i c
def lateOk (l : Array Oper) (c : Nat) : Bool := (List.range l.size).all fun i => match l[i]? with
 | some o => o.after.all fun e => !Region.binds .any e || !lateOf l c e.on || (lateOf l c i && !decide (i = c))
 | none => true
def ways (S : Sig) (l : Array Oper) (c u : Nat) : Ways := ⟨Rw S u, c, lateOf l c, fun _ _ h => Rw.ext h, fun _ _ _ h k => h.comp k⟩
def sg (S : Sig) (l : Array Oper) (c u i : Nat) : Sig := if lateOf l c i = true then S.drop u else S
theorem late_dep {l : Array Oper} {c i : Nat} {o : Oper} (h : lateOk l c = true) (ho : l[i]? = some o) {e : Edge} (he : e ∈ o.after.toList) (hb : Region.binds .any e = true) (hl : lateOf l c e.on = true) : lateOf l c i = true ∧ i ≠ c := by
 have h1 := List.all_eq_true.1 h i (by simpa using (Array.getElem?_eq_some_iff.1 ho).1)
 simp only [ho] at h1
 have h2 := Array.all_eq_true'.1 h1 e (by simpa using he)
 simpa [hb, hl] using h2
/-- Who may be named. -/
def AlOk (fr0 : List D) (cs u : Nat) : Prop := (u = cs ∧ ∃ e, fr0[u]? = some e) ∨ ∃ d', fr0[u]? = some d' ∧ d'.owns = true
def NmOk (fr0 : List D) (cs : Nat) : D → Prop
 | .al u => AlOk fr0 cs u
 | .ref u _ => ∃ c, fr0[u]? = some (.obj c)
 | _ => True
structure QInv (S : Sig) (l : Array Oper) (c cs n0 : Nat) (a0 : Act) (fr0 : List D) (pre : List Oper) (fs : List (World → Prop)) (a : Act) (fr : List D) : Prop where
 size : a.tmps.size = fr.length
 len : fr.length = fr0.length
 defers : a.defers = []
 fslen : fs.length = pre.length
 slot : ∀ (t : Nat) (d : D), fr[t]? = some d → (a.tmps[t]? = a0.tmps[t]? ∧ fr0[t]? = some d) ∨
  ∃ (k : Nat) (o : Oper) (v : Value), pre[k]? = some o ∧ o.dst = some t ∧ a.tmps[t]? = some v ∧ fs[k]? = some (Fact (sg S l c cs k) n0 a0 d v) ∧ NmOk fr0 cs d
 own : ∀ (u : Nat) (d : D), fr0[u]? = some d → d.owns = true → fr[u]? = some d ∧ a.tmps[u]? = a0.tmps[u]?
 keep : a.tmps[cs]? = a0.tmps[cs]?
/-- An owner is where it was. -/
theorem QInv.slot' {S : Sig} {l : Array Oper} {c cs n0 : Nat} {a0 : Act} {fr0 : List D} {pre : List Oper} {fs : List (World → Prop)} {a : Act} {fr : List D} (h : QInv S l c cs n0 a0 fr0 pre fs a fr) (t : Nat) (d : D) (hd : fr[t]? = some d) : (a.tmps[t]? = a0.tmps[t]? ∧ fr0[t]? = some d) ∨
  (∃ (k : Nat) (o : Oper) (v : Value), pre[k]? = some o ∧ o.dst = some t ∧ a.tmps[t]? = some v ∧ fs[k]? = some (Fact (sg S l c cs k) n0 a0 d v) ∧ NmOk fr0 cs d) ∧ ∀ x, d = .obj x → ∀ c', fr0[t]? ≠ some (.obj c') := by
 rcases h.slot t d hd with h1 | h1
 ·exact .inl h1
 ·by_cases hob : ∃ c', fr0[t]? = some (.obj c')
  ·obtain ⟨c', hc'⟩ := hob
   obtain ⟨g1, g2⟩ := h.own t _ hc' rfl
   rw [hd] at g1
   cases g1
   exact .inl ⟨g2, hc'⟩
  ·exact .inr ⟨h1, fun x _ c' e => hob ⟨c', e⟩⟩
/-- What is given of a region. -/
structure QC (S : Sig) (l : List Oper) (c cs : Nat) (a0 : Act) (frF fr0 : List D) (w0 : World) : Prop where
 hF : FR S w0 a0 frF
 hX : fr0 = frF.set cs .any
 hno : ∀ x, frF[cs]? ≠ some (.obj x)
 hok : parOk l.toArray = true
 hlate : lateOk l.toArray c = true
 nonm : ∀ (i : Nat) (d : D), frF[i]? = some d → d.nm3 = false
theorem QC.isNm {S : Sig} {l : List Oper} {c cs : Nat} {a0 : Act} {frF fr0 : List D} {w0 : World} (h : QC S l c cs a0 frF fr0 w0) {i : Nat} {d : D} (hd : frF[i]? = some d) (hn : ∀ x, d ≠ .al x) : d.isNm = false := by
 have := h.nonm i d hd
 cases d <;> first | rfl | (cases this; done) | exact absurd rfl (hn _)
theorem QC.other {S : Sig} {l : List Oper} {c cs : Nat} {a0 : Act} {frF fr0 : List D} {w0 : World} (h : QC S l c cs a0 frF fr0 w0) {i : Nat} (hi : i ≠ cs) : fr0[i]? = frF[i]? := by rw [h.hX, List.getElem?_set_ne (Ne.symm hi)]
theorem QC.at_cs {S : Sig} {l : List Oper} {c cs : Nat} {a0 : Act} {frF fr0 : List D} {w0 : World} (h : QC S l c cs a0 frF fr0 w0) {d : D} (hd : fr0[cs]? = some d) : d = .any := by
 rw [h.hX] at hd
 have hlt := (List.getElem?_eq_some_iff.1 hd).1
 rw [List.getElem?_set_self (by simpa using hlt)] at hd
 cases hd
 rfl
/-- What is at a slot from the beginning, behind whatever came. -/
theorem QC.hold {S : Sig} {l : List Oper} {c cs : Nat} {a0 : Act} {frF fr0 : List D} {w0 w : World} (h : QC S l c cs a0 frF fr0 w0) (hR : Rw S cs w0 w) {S' : Sig} (hS : S' = S ∨ S' = S.drop cs) {i : Nat} {d : D} {v : Value} (hd : fr0[i]? = some d) (hv : a0.tmps[i]? = some v) (hn : ∀ x, d ≠ .al x) : Rep S' w (.slot i) v d := by
 by_cases hi : i = cs
 ·subst hi
  obtain rfl := h.at_cs hd
  exact .fz (.any _)
 ·rw [h.other hi] at hd
  obtain ⟨h1, h2⟩ := (h.hF.slot i d v hd hv).rep (h.isNm hd hn)
  exact hR.rep h.hF.wf hS h.hno hi h1 h2
theorem QC.wf {S : Sig} {l : List Oper} {c cs : Nat} {a0 : Act} {frF fr0 : List D} {w0 w : World} (h : QC S l c cs a0 frF fr0 w0) (hR : Rw S cs w0 w) {S' : Sig} (hS : S' = S ∨ S' = S.drop cs) : WF S' w := by
 have := hR.wf h.hF.wf
 rcases hS with rfl | rfl
 ·exact this
 ·exact drop_wf this
theorem sg_or {S : Sig} {l : Array Oper} {c cs i : Nat} : sg S l c cs i = S ∨ sg S l c cs i = S.drop cs := by
 unfold sg
 split
 ·exact .inr rfl
 ·exact .inl rfl
theorem sg_to {S : Sig} {l : Array Oper} {c cs k : Nat} {S' : Sig} (hS : S' = S ∨ S' = S.drop cs) (hl : lateOf l c k = true → S' = S.drop cs) {w : World} {v : Value} {d : D} (h : Fz (sg S l c cs k).lim w v d) : Fz S'.lim w v d := by
 unfold sg at h
 split at h
 ·rename_i hk
  rw [hl hk]
  exact h
 ·rcases hS with rfl | rfl
  ·exact h
  ·exact drop_lim h
theorem sg_loc {S : Sig} {l : Array Oper} {c cs k : Nat} : (sg S l c cs k).loc = S.loc := by
 unfold sg
 split <;> rfl
/-- An object that is there from the beginning. -/
theorem QC.refOwn {S : Sig} {l : List Oper} {c cs : Nat} {a0 : Act} {frF fr0 : List D} {w0 w : World} (h : QC S l c cs a0 frF fr0 w0) (hR : Rw S cs w0 w) {S' : Sig} (hS : S' = S ∨ S' = S.drop cs) {u : Nat} {ds : List D} (hd : fr0[u]? = some (.obj ds)) : S'.own (S'.loc (u + 2)) = some (.slot u, 0) ∧ S'.loc = S.loc := by
 have hlt : u < a0.tmps.size := by
  rw [h.hF.size]
  have := (List.getElem?_eq_some_iff.1 hd).1
  rw [h.hX] at this
  simpa using this
 have hv : a0.tmps[u]? = some a0.tmps[u] := by simp [hlt]
 have hr := h.hold hR hS hd hv (fun x e => by cases e)
 obtain ⟨b, cur, e, _, hb, hloc, _⟩ := hr.obj_inv
 exact ⟨by rw [hloc]; exact hb, by rcases hS with rfl | rfl <;> rfl⟩
/-- What the slot of an object holds. -/
theorem QC.objVal {S : Sig} {l : List Oper} {c cs : Nat} {a0 : Act} {frF fr0 : List D} {w0 : World} (h : QC S l c cs a0 frF fr0 w0) {u : Nat} {ds : List D} (hd : fr0[u]? = some (.obj ds)) : a0.tmps[u]? = some (.pointer (some ⟨S.loc (u + 2), 0, none⟩)) := by
 have huc : u ≠ cs := fun e => by subst e; have := h.at_cs hd; cases this
 rw [h.other huc] at hd
 obtain ⟨v, hv, hs⟩ := h.hF.at hd
 obtain ⟨b, cur, e, rfl, _, hloc, _⟩ := hs.1.obj_inv
 rw [hv, hloc]
section
variable {P : Program} {T : Nat → Option TI} {Z : Nat → Option (List Value)}
theorem evalD_nil {S : Sig} {w : World} {a : Act} {x : Operand} (hx : ∀ t, x ≠ .tmp t) : ∃ q, Rep S w q (a.eval x) (evalD [] x) := by
 cases x with
 | tmp t => exact absurd rfl (hx t)
 | const v =>
  unfold evalD Act.eval
  cases v with
  | agg cs => exact ⟨.dead, .fz (.any _)⟩
  | _ => exact ⟨.dead, .fz (ofVal_rep _ (by intro cs hc; cases hc))⟩
 | global g => exact ⟨.dead, .fz (.any _)⟩
 | func f => exact ⟨.dead, .fz (.fn [] rfl (fun j d v hd => by simp at hd))⟩
theorem tmp_eval {a : Act} {t : Nat} {v : Value} (h : a.tmps[t]? = some v) : a.eval (.tmp t) = v := by simp [Act.eval, Array.getD_eq_getD_getElem?, h]
/-- What an operand is, whatever came before of that which need not have come. -/
theorem QInv.eval {S S' : Sig} {c cs n0 : Nat} {a0 : Act} {frF fr0 fr : List D} {pre : List Oper} {fs : List (World → Prop)} {a : Act} {l : List Oper} {o : Oper} {w0 w : World} (h : QInv S l.toArray c cs n0 a0 fr0 pre fs a fr) (hC : QC S l c cs a0 frF fr0 w0) (hpre : ∀ (k : Nat) (p : Oper), pre[k]? = some p → l[k]? = some p) (ho : l[pre.length]? = some o)
  (hR : Rw S cs w0 w) (hS : S' = S ∨ S' = S.drop cs) (hSd : ∀ e ∈ o.after.toList, Region.binds .any e = true → lateOf l.toArray c e.on = true → S' = S.drop cs)
  (hf : ∀ e ∈ o.after.toList, Region.binds .any e = true → (fs.getD e.on (fun _ => True)) w) {x : Operand} (hm : ∀ t, x = .tmp t → t ∈ o.looksAt l.toArray) : ∃ q, Rep S' w q (a.eval x) (evalQ fr0 fr x) := by
 have hF := hC.hF
 have hok := hC.hok
 cases x with
 | tmp t =>
  unfold evalQ
  simp only
  cases hd : fr[t]? with
  | none => exact ⟨.dead, .fz (.any _)⟩
  | some d =>
   rcases h.slot' t d hd with ⟨h1, h2⟩ | ⟨⟨k, p, v, k1, k2, k3, k4, k5⟩, hno⟩
   ·have hlt : t < a0.tmps.size := by
     rw [hF.size]
     have := (List.getElem?_eq_some_iff.1 h2).1
     rw [hC.hX] at this
     simpa using this
    have hv : a0.tmps[t]? = some a0.tmps[t] := by simp [hlt]
    generalize a0.tmps[t] = v at hv
    have hav : a.eval (.tmp t) = v := tmp_eval (h1.trans hv)
    rw [hav]
    cases d with
    | al u =>
     have htc : t ≠ cs := fun e => by subst e; have := hC.at_cs h2; cases this
     rw [hC.other htc] at h2
     obtain ⟨g1, d', g2, g3, _⟩ := hF.slot t _ v h2 hv
     simp only
     by_cases huc : u = cs
     ·cases hdu : fr0[u]? with
      | none => exact ⟨.dead, .fz (.any _)⟩
      | some e =>
       subst huc
       obtain rfl := hC.at_cs hdu
       exact ⟨.dead, .fz (.any _)⟩
     ·rw [← hC.other huc] at g2
      simp only [g2, Option.getD_some]
      exact ⟨_, hC.hold hR hS g2 g1 (fun x e => by subst e; simp [D.owns] at g3)⟩
    | obj cs' =>
     simp only [h2]
     exact ⟨.slot t, hC.hold hR hS h2 hv (fun x e => by cases e)⟩
    | _ => exact ⟨.slot t, hC.hold hR hS h2 hv (fun x e => by cases e)⟩
   ·have hkl : k < pre.length := (List.getElem?_eq_some_iff.1 k1).1
    have hpair := (parOk_pair hok (i := pre.length) (k := k) (o := o) (p := p) (by simpa using ho) (by simpa using hpre k p k1) (by omega) k2).2 (hm t rfl)
    have hdep : depOn o k = true := by
     rcases hpair with h | h
     ·exact h
     ·obtain ⟨e, he, hb, hek⟩ := depOn_spec h
      have := parOk_before hok (i := k) (o := p) (by simpa using hpre k p k1) he hb
      omega
    obtain ⟨e, he, hb, hek⟩ := depOn_spec hdep
    have hfact := hf e (by simpa using he) hb
    rw [hek, List.getD_eq_getElem?_getD, k4] at hfact
    have hav : a.eval (.tmp t) = v := tmp_eval k3
    rw [hav]
    simp only [Option.getD_some] at hfact
    have h2 := hfact.2
    have hsd : lateOf l.toArray c k = true → S' = S.drop cs := fun hk => hSd e (by simpa using he) hb (by rw [hek]; exact hk)
    cases d with
    | al u =>
     simp only
     rcases (k5 : AlOk fr0 cs u) with ⟨rfl, _⟩ | ⟨d', g2, g3⟩
     ·cases hdu : fr0[u]? with
      | none => exact ⟨.dead, .fz (.any _)⟩
      | some e =>
       obtain rfl := hC.at_cs hdu
       exact ⟨.dead, .fz (.any _)⟩
     ·have hlt : u < a0.tmps.size := by
       rw [hF.size]
       have := (List.getElem?_eq_some_iff.1 g2).1
       rw [hC.hX] at this
       simpa using this
      have hv' : a0.tmps[u]? = some a0.tmps[u] := by simp [hlt]
      simp only at h2
      rw [tmp_eval hv'] at h2
      subst h2
      simp only [g2, Option.getD_some]
      exact ⟨_, hC.hold hR hS g2 hv' (fun x e => by subst e; simp [D.owns] at g3)⟩
    | ref u off =>
     obtain ⟨ds, hc⟩ := (k5 : ∃ c, fr0[u]? = some (.obj c))
     have hob := hC.refOwn hR hS hc
     have hl : (sg S l.toArray c cs k).loc = S'.loc := by rw [sg_loc, hob.2]
     simp only at h2
     rw [h2, hl]
     exact ⟨.dead, .ref hob.1⟩
    | obj cs' =>
     simp only
     split
     ·rename_i c' hc'
      exact absurd hc' (hno _ rfl c')
     ·exact ⟨.dead, .fz (.any _)⟩
    | _ => exact ⟨.dead, .fz (sg_to hS hsd h2)⟩
 | const v => exact evalD_nil (fun t e => by cases e)
 | global g => exact evalD_nil (fun t e => by cases e)
 | func f => exact evalD_nil (fun t e => by cases e)
theorem gdsQ_rep {S : Sig} {w : World} {a : Act} {fr0 fr : List D} : ∀ (xs : List Operand), (∀ x ∈ xs, ∃ q, Rep S w q (a.eval x) (evalQ fr0 fr x)) → holds (gds (evalQ fr0 fr) xs) → ∀ x ∈ xs, ∃ q, Rep S w q (a.eval x) (strip (evalQ fr0 fr x))
 | [], _, _, x, hx => by cases hx
 | y :: xs, hr, hg, x, hx => by
  simp only [gds] at hg
  have key : holds (gds (evalQ fr0 fr) xs) ∧ ∃ q, Rep S w q (a.eval y) (strip (evalQ fr0 fr y)) := by
   obtain ⟨q, hq⟩ := hr y (by simp)
   split at hg
   ·rename_i c d hy
    rw [hy] at hq ⊢
    split at hg
    ·rename_i hn
     rw [hn]
     exact ⟨trivial, .dead, .fz (hq.gd_inv.1 hg)⟩
    ·rename_i p hp
     rw [hp]
     exact ⟨hg.2, .dead, .fz (hq.gd_inv.1 hg.1)⟩
   ·rename_i hn
    refine ⟨hg, q, ?_⟩
    generalize evalQ fr0 fr y = d at hq hn ⊢
    cases d with
    | gd c d => exact absurd rfl (hn c d)
    | _ => exact hq
  rcases List.mem_cons.1 hx with rfl | hx
  ·exact key.2
  ·exact gdsQ_rep xs (fun x hx => hr x (by simp [hx])) key.1 x hx
/-- What the guard says, whatever came before. -/
theorem QInv.wanted {S S' : Sig} {c cs n0 : Nat} {a0 : Act} {frF fr0 fr : List D} {pre : List Oper} {fs : List (World → Prop)} {a : Act} {l : List Oper} {o : Oper} {w0 w : World} (h : QInv S l.toArray c cs n0 a0 fr0 pre fs a fr) (hC : QC S l c cs a0 frF fr0 w0) (hpre : ∀ (k : Nat) (p : Oper), pre[k]? = some p → l[k]? = some p) (ho : l[pre.length]? = some o)
  (hR : Rw S cs w0 w) (hS : S' = S ∨ S' = S.drop cs) (hSd : ∀ e ∈ o.after.toList, Region.binds .any e = true → lateOf l.toArray c e.on = true → S' = S.drop cs)
  (hf : ∀ e ∈ o.after.toList, Region.binds .any e = true → (fs.getD e.on (fun _ => True)) w) {j : Nat} {want cb : Bool} (hg : o.guard = some (j, want)) (hc : condOf l fr j want = some cb) : Region.wanted o (yielded l.toArray a.tmps) = cb := by
 unfold condOf at hc
 split at hc
 ·rename_i oj hj
  split at hc
  ·rename_i t ht
   have hlook : t ∈ o.looksAt l.toArray := by
    unfold Oper.looksAt
    refine List.mem_append_right _ ?_
    rw [hg]
    simp [hj, ht]
   have hy : ∀ v, a.tmps[t]? = some v → ((l.toArray[j]?).bind (·.dst)).bind (a.tmps[·]?) = some v := fun v hv => by
    simp only [List.getElem?_toArray, hj, Option.bind_some, ht, hv]
   obtain ⟨q, hq⟩ := h.eval hC hpre ho hR hS hSd hf (x := .tmp t) (fun t' e => by cases e; exact hlook)
   split at hc
   ·rename_i b hd
    have hlt : t < a.tmps.size := by rw [h.size]; exact (List.getElem?_eq_some_iff.1 hd).1
    have hv : a.tmps[t]? = some a.tmps[t] := by simp [hlt]
    rw [tmp_eval hv] at hq
    simp only [evalQ, hd] at hq
    have hb := hq.bool_inv
    refine wanted_at hg (hy _ hv) ?_
    rw [hb]
    cases want <;> simp only [Option.some.injEq] at hc <;> subst hc <;> simp [boolOf]
   ·rename_i c0 b hd
    have hlt : t < a.tmps.size := by rw [h.size]; exact (List.getElem?_eq_some_iff.1 hd).1
    have hv : a.tmps[t]? = some a.tmps[t] := by simp [hlt]
    rw [tmp_eval hv] at hq
    simp only [evalQ, hd] at hq
    obtain ⟨k1, k0⟩ := hq.gd_inv
    refine wanted_at hg (hy _ hv) ?_
    cases c0 with
    | true =>
     rw [(Rep.fz (S := S') (p := .dead) (k1 rfl)).bool_inv]
     cases want <;> simp only [Option.some.injEq] at hc <;> subst hc <;> simp [boolOf]
    | false =>
     rw [k0 rfl]
     cases want <;> simp only [Option.some.injEq] at hc <;> subst hc <;> simp [boolOf, undef]
   ·cases hc
  ·cases hc
 ·cases hc
theorem frzQ_noal {d : D} (ho : okQ d = true) : ∀ u, frzQ d ≠ .al u := by
 intro u e
 unfold frzQ at e
 split at e
 ·subst e; rename_i h; cases h
 ·rename_i h
  cases d <;> first | exact Bool.noConfusion (show true = false from h) | exact Bool.noConfusion (show false = true from ho) | (simp [D.frz] at e; done)
theorem frzQ_noref {d : D} (ho : okQ d = true) : ∀ u off, frzQ d ≠ .ref u off := by
 intro u off e
 unfold frzQ at e
 split at e
 ·subst e; rename_i h; cases h
 ·rename_i h
  cases d <;> first | exact Bool.noConfusion (show true = false from h) | exact Bool.noConfusion (show false = true from ho) | (simp [D.frz] at e; done)
theorem frzQ_nm {d : D} (ho : okQ d = true) {fr0 : List D} {cs : Nat} : NmOk fr0 cs (frzQ d) := by
 have h1 := frzQ_noal ho
 have h2 := frzQ_noref ho
 generalize frzQ d = e at *
 cases e with
 | al u => exact absurd rfl (h1 u)
 | ref u off => exact absurd rfl (h2 u off)
 | _ => trivial
/-- What a name stands for. -/
theorem QInv.evAl {S : Sig} {c cs n0 : Nat} {a0 : Act} {frF fr0 fr : List D} {pre : List Oper} {fs : List (World → Prop)} {a : Act} {l : List Oper} {o : Oper} {w0 w : World} (hI : QInv S l.toArray c cs n0 a0 fr0 pre fs a fr) (hC : QC S l c cs a0 frF fr0 w0) (hpre : ∀ (k : Nat) (p : Oper), pre[k]? = some p → l[k]? = some p) (ho : l[pre.length]? = some o) {u0 u : Nat} (hlook : u0 ∈ o.looksAt l.toArray) (hd : fr[u0]? = some (.al u))
  (hf : ∀ e ∈ o.after.toList, Region.binds .any e = true → (fs.getD e.on (fun _ => True)) w) : a.eval (.tmp u0) = a0.eval (.tmp u) := by
 have hF := hC.hF
 have hok := hC.hok
 rcases hI.slot _ _ hd with ⟨h1, h2⟩ | ⟨k, p, v, k1, k2, k3, k4, k5⟩
 ·have htc : u0 ≠ cs := fun e => by subst e; have := hC.at_cs h2; cases this
  rw [hC.other htc] at h2
  obtain ⟨v, hv, hsl⟩ := hF.at h2
  rw [tmp_eval (h1.trans hv), tmp_eval hsl.1]
 ·have hkl : k < pre.length := (List.getElem?_eq_some_iff.1 k1).1
  have hpair := (parOk_pair hok (i := pre.length) (k := k) (o := o) (p := p) (by simpa using ho) (by simpa using hpre k p k1) (by omega) k2).2 hlook
  have hdep : depOn o k = true := by
   rcases hpair with h | h
   ·exact h
   ·obtain ⟨e, he, hb, hek⟩ := depOn_spec h
    have := parOk_before hok (i := k) (o := p) (by simpa using hpre k p k1) he hb
    omega
  obtain ⟨e, he, hb, hek⟩ := depOn_spec hdep
  have hfact := hf e (by simpa using he) hb
  rw [hek, List.getD_eq_getElem?_getD, k4] at hfact
  rw [tmp_eval k3]
  exact hfact.2
/-- One operation among others whose order is open. -/
theorem stepQ_sound (hT : TOk P T Z) {S : Sig} {ci cs n0 : Nat} {a0 : Act} {frF fr0 fr : List D} {l pre : List Oper} {o : Oper} {w0 : World} {Q : Exit → Act → World → Prop} {K : D → Prop} (hC : QC S l ci cs a0 frF fr0 w0) (hpre : ∀ (k : Nat) (p : Oper), pre[k]? = some p → l[k]? = some p) (ho : l[pre.length]? = some o)
  (hn0 : n0 ≤ w0.heap.size) (hs : stepQ P T Z l cs fr0 fr o K) : ∃ d, K d ∧ NmOk fr0 cs d ∧ ∀ (fs : List (World → Prop)) (a : Act), QInv S l.toArray ci cs n0 a0 fr0 pre fs a fr → ∀ w, Rw S cs w0 w → (∀ e ∈ o.after.toList, Region.binds .any e = true → (fs.getD e.on (fun _ => True)) w) → StepAt P l.toArray Q o (factSpec (sg S l.toArray ci cs pre.length) n0 a0 d) a w := by
 obtain ⟨S1, hS1⟩ : ∃ S1, S1 = sg S l.toArray ci cs pre.length := ⟨_, rfl⟩
 rw [← hS1]
 have hSd : ∀ e ∈ o.after.toList, Region.binds .any e = true → lateOf l.toArray ci e.on = true → S1 = S.drop cs := fun e he hb hl => by
  rw [hS1]
  unfold sg
  rw [if_pos (late_dep hC.hlate (by simpa using ho) he hb hl).1]
 have hS1o : S1 = S ∨ S1 = S.drop cs := hS1 ▸ sg_or
 have hF := hC.hF
 have hok := hC.hok
 have hops : ∀ x ∈ o.op.operands.toList, ∀ t, x = .tmp t → t ∈ o.looksAt l.toArray := fun x hx t e => by
  subst e
  exact List.mem_append_left _ (List.mem_filterMap.2 ⟨.tmp t, hx, rfl⟩)
 have wfw : ∀ {w : World}, Rw S cs w0 w → WF S1 w := fun hx => hC.wf hx hS1o
 -- a value that is known to be so
 have done : ∀ {d : D} (a : Act) (w : World), Rw S cs w0 w → Region.wanted o (yielded l.toArray a.tmps) = true → (∀ K', (∀ v w', Fact S1 n0 a0 d v w' → Ext w w' → K' (a.put o.dst v) w') → o.wp P a w K' (NoPanic Q)) → StepAt P l.toArray Q o (factSpec S1 n0 a0 d) a w := by
  intro d a w _ hw h
  unfold StepAt
  rw [if_pos hw]
  exact fun K' hK => .inl (h K' fun v w' h1 h2 => hK (0, 0, v) w' h1 h2)
 have plainOp : ∀ {s : Option Prop} {d : D}, holds s → okQ d = true → (holds s → OpOk P o (evalQ fr0 fr) d) → NmOk fr0 cs (frzQ d) ∧ ∀ (fs : List (World → Prop)) (a : Act), QInv S l.toArray ci cs n0 a0 fr0 pre fs a fr → o.guard = none → ∀ w, Rw S cs w0 w → (∀ e ∈ o.after.toList, Region.binds .any e = true → (fs.getD e.on (fun _ => True)) w) → StepAt P l.toArray Q o (factSpec S1 n0 a0 (frzQ d)) a w := by
  intro s d h1 h2 h3
  refine ⟨frzQ_nm h2, fun fs a hI hg w hx hf => done a w hx (by unfold Region.wanted; rw [hg]) fun K' hK => ?_⟩
  obtain ⟨p, _, _, hp⟩ := fresh_place S1 w (wfw hx)
  refine h3 h1 S1 w a p (wfw hx) (fun x hx' => hI.eval hC hpre ho hx hS1o hSd hf (hops x hx')) K' _ fun v S' w' hpt hr _ => hK v w' ⟨?_, ?_⟩ hpt.ext
  ·exact (PT.ext' (wfw hx) hpt.ext).wf
  ·have hz := unown (wfw hx) hpt hp hr h2
   have hn := frzQ_noal h2
   have hn' := frzQ_noref h2
   generalize frzQ d = e at hz hn hn' ⊢
   cases e with
   | al u => exact absurd rfl (hn u)
   | ref u off => exact absurd rfl (hn' u off)
   | obj x => cases hz
   | _ => exact hz
 unfold stepQ at hs
 split at hs
 ·rename_i hg
  have hopD : (opD P T Z (evalQ fr0 fr) o.op fun s d => andO s (match okQ d with | true => force (frzQ d) K | false => False)) → ∃ d, K d ∧ NmOk fr0 cs d ∧ ∀ (fs : List (World → Prop)) (a : Act), QInv S l.toArray ci cs n0 a0 fr0 pre fs a fr → ∀ w, Rw S cs w0 w → (∀ e ∈ o.after.toList, Region.binds .any e = true → (fs.getD e.on (fun _ => True)) w) → StepAt P l.toArray Q o (factSpec S1 n0 a0 d) a w := by
   intro h
   obtain ⟨s, d, h1, h3⟩ := opD_sound (dst := o.dst) (ty := o.type) (pos := o.pos) (after := o.after) (guard := o.guard) hT h
   obtain ⟨g1, g2⟩ := andO_iff.1 h1
   split at g2
   ·rename_i hq
    rw [force_eq] at g2
    obtain ⟨k1, k2⟩ := plainOp g1 hq h3
    exact ⟨_, g2, k1, fun fs a hI w hx hf => k2 fs a hI hg w hx hf⟩
   ·exact g2.elim
  have aliasOp : ∀ {u0 u : Nat}, o.op = .move (.tmp u0) → AlOk fr0 cs u → (∀ (fs : List (World → Prop)) (a : Act), QInv S l.toArray ci cs n0 a0 fr0 pre fs a fr → ∀ w, (∀ e ∈ o.after.toList, Region.binds .any e = true → (fs.getD e.on (fun _ => True)) w) → a.eval (.tmp u0) = a0.eval (.tmp u)) → K (.al u) → ∃ d, K d ∧ NmOk fr0 cs d ∧ ∀ (fs : List (World → Prop)) (a : Act), QInv S l.toArray ci cs n0 a0 fr0 pre fs a fr → ∀ w, Rw S cs w0 w → (∀ e ∈ o.after.toList, Region.binds .any e = true → (fs.getD e.on (fun _ => True)) w) → StepAt P l.toArray Q o (factSpec S1 n0 a0 d) a w := by
   intro u0 u hop hown hev hK
   refine ⟨_, hK, hown, fun fs a hI w hx hf => done a w hx (by unfold Region.wanted; rw [hg]) fun K' hK' => ?_⟩
   obtain ⟨dst, op, ty, pos, after, guard⟩ := o
   simp only at hop
   subst hop
   exact r_move rfl (hK' _ w ⟨wfw hx, hev fs a hI w hf⟩ (Ext.refl w))
  have evAl : ∀ {u0 u : Nat}, o.op = .move (.tmp u0) → fr[u0]? = some (.al u) → ∀ (fs : List (World → Prop)) (a : Act), QInv S l.toArray ci cs n0 a0 fr0 pre fs a fr → ∀ w, (∀ e ∈ o.after.toList, Region.binds .any e = true → (fs.getD e.on (fun _ => True)) w) → a.eval (.tmp u0) = a0.eval (.tmp u) := fun hop hd fs a hI w hf => hI.evAl hC hpre ho (hops (.tmp _) (by rw [hop]; simp [Op.operands]) _ rfl) hd hf
  split at hs
  ·rename_i u0 hop
   split at hs
   ·rename_i hu
    have := Nat.eq_of_beq_eq_true hu
    subst this
    split at hs
    ·rename_i e he
     refine aliasOp hop (.inl ⟨rfl, e, he⟩) (fun fs a hI w hf => ?_) hs
     simp [Act.eval, Array.getD_eq_getD_getElem?, hI.keep]
    ·exact hs.elim
   ·rename_i hu
    split at hs
    ·rename_i m sz rows hd
     split at hs
     ·rename_i hd0
      refine aliasOp hop (.inr ⟨_, hd0, rfl⟩) (fun fs a hI w hf => ?_) hs
      obtain ⟨_, h2⟩ := hI.own _ _ hd0 rfl
      simp [Act.eval, Array.getD_eq_getD_getElem?, h2]
     ·exact hs.elim
    ·rename_i u' hd
     split at hs
     ·rename_i hu'
      have := Nat.eq_of_beq_eq_true hu'
      subst this
      split at hs
      ·rename_i e he
       exact aliasOp hop (.inl ⟨rfl, e, he⟩) (evAl hop hd) hs
      ·exact hs.elim
     ·split at hs
      ·rename_i hd0
       exact aliasOp hop (.inr ⟨_, hd0, rfl⟩) (evAl hop hd) hs
      ·exact hs.elim
    ·exact hopD hs
  ·rename_i c x y hop
   have hm : ∀ z, z ∈ [c, x, y] → ∀ t, z = .tmp t → t ∈ o.looksAt l.toArray := fun z hz => hops z (by rw [hop]; simpa [Op.operands] using hz)
   obtain ⟨s, r, hp, h12⟩ := pickD_inv hs
   obtain ⟨h1, h2⟩ := andO_iff.1 h12
   rw [force_eq] at h2
   refine ⟨_, h2, trivial, fun fs a hI w hx hf => done a w hx (by unfold Region.wanted; rw [hg]) fun K' hK => ?_⟩
   have hev : ∀ z, z ∈ [c, x, y] → ∃ q, Rep S1 w q (a.eval z) (evalQ fr0 fr z) := fun z hz => hI.eval hC hpre ho hx hS1o hSd hf (hm z hz)
   obtain ⟨p, h3, h4⟩ := pickR_sound (hev c (by simp)) (hev x (by simp)) (hev y (by simp)) hp h1
   obtain ⟨dst, op, ty, pos, after, guard⟩ := o
   simp only at hop
   subst hop
   refine pick_run h3 ?_
   rw [h4]
   exact hK _ w ⟨wfw hx, .bool r⟩ (Ext.refl w)
  ·rename_i ty0 hop
   split at hs
   ·rename_i zc hz
    split at hs
    ·rename_i h1
     rw [force_eq] at hs
     haveI := hT.zer _ _ hz
     refine ⟨_, hs, trivial, fun fs a hI w hx hf => done a w hx (by unfold Region.wanted; rw [hg]) fun K' hK => ?_⟩
     obtain ⟨dst, op, ty, pos, after, guard⟩ := o
     simp only at hop
     subst hop
     refine r_alloc fun g w' hb hx' hgs => ?_
     have hw1 := wfw hx
     refine hK _ w' ⟨(PT.ext' hw1 hx').wf, g, _, zc, rfl, ?_, ?_, hb, rfl, h1⟩ hx'
     ·have := hx.size
      omega
     ·cases hob : S1.own g with
      | none => rfl
      | some x => have := hw1 g x hob; omega
    ·exact hs.elim
   ·exact hs.elim
  ·rename_i ty0 u i hop
   split at hs
   ·rename_i ds hd
    split at hs
    ·rename_i ht
     split at hs
     ·rename_i off n ag hfl
      haveI := (hT.ty _ _ ht).2.1 _ _ _ _ hfl
      refine ⟨_, hs, ⟨ds, hd⟩, fun fs a hI w hx hf => done a w hx (by unfold Region.wanted; rw [hg]) fun K' hK => ?_⟩
      obtain ⟨_, h2⟩ := hI.own u _ hd rfl
      have hval := hC.objVal hd
      have hloc : S1.loc = S.loc := by rcases hS1o with rfl | rfl <;> rfl
      obtain ⟨dst, op, ty, pos, after, guard⟩ := o
      simp only at hop
      subst hop
      refine r_fieldAddr (tmp_eval (h2.trans hval)) ?_
      rw [Nat.zero_add]
      exact hK _ w ⟨wfw hx, by rw [hloc]⟩ (Ext.refl w)
     ·exact hs.elim
    ·exact hs.elim
   ·exact hopD hs
  ·exact hopD hs
 ·rename_i j want hg
  split at hs
  ·rename_i c hc
   -- carried out, or passed over
   have both : ∀ {d : D} (a : Act) (w : World) (fs : List (World → Prop)), QInv S l.toArray ci cs n0 a0 fr0 pre fs a fr → Rw S cs w0 w → (∀ e ∈ o.after.toList, Region.binds .any e = true → (fs.getD e.on (fun _ => True)) w) →
     (c = true → ∀ K', (∀ v w', Fz S1.lim w' v d → Ext w w' → K' (a.put o.dst v) w') → o.wp P a w K' (NoPanic Q)) → StepAt P l.toArray Q o (factSpec S1 n0 a0 (.gd c d)) a w := by
    intro d a w fs hI hx hf h
    have hw := hI.wanted hC hpre ho hx hS1o hSd hf hg hc
    unfold StepAt
    rw [hw]
    cases c with
    | true =>
     rw [if_pos rfl]
     exact fun K' hK => .inl (h rfl K' fun v w' h1 h2 => hK (0, 0, v) w' ⟨(PT.ext' (wfw hx) h2).wf, .gd (fun _ => h1) (fun e => by cases e)⟩ h2)
    | false =>
     rw [if_neg (by simp)]
     exact ⟨(0, 0, undef), rfl, wfw hx, .gd (fun e => by cases e) (fun _ => rfl)⟩
   split at hs
   ·rename_i cc x y hop
    have hm : ∀ z, z ∈ [cc, x, y] → ∀ t, z = .tmp t → t ∈ o.looksAt l.toArray := fun z hz => hops z (by rw [hop]; simpa [Op.operands] using hz)
    obtain ⟨s, r, hp, h12⟩ := pickD_inv hs
    obtain ⟨h1, h2⟩ := andO_iff.1 h12
    refine ⟨_, h2, trivial, fun fs a hI w hx hf => both a w fs hI hx hf fun hct K' hK => ?_⟩
    have hev : ∀ z, z ∈ [cc, x, y] → ∃ q, Rep S1 w q (a.eval z) (evalQ fr0 fr z) := fun z hz => hI.eval hC hpre ho hx hS1o hSd hf (hm z hz)
    obtain ⟨hgd, hs'⟩ := under_holds h1 hct
    obtain ⟨p, h3, h4⟩ := pickR_sound (gdsQ_rep [cc] (fun z hz => hev z (by simp at hz; simp [hz])) hgd cc (by simp)) (hev x (by simp)) (hev y (by simp)) hp hs'
    obtain ⟨dst, op, ty, pos, after, guard⟩ := o
    simp only at hop
    subst hop
    refine pick_run h3 ?_
    rw [h4]
    exact hK _ w (.bool r) (Ext.refl w)
   ·obtain ⟨s, d, h1, h3⟩ := opD_sound (dst := o.dst) (ty := o.type) (pos := o.pos) (after := o.after) (guard := o.guard) hT hs
    obtain ⟨h1, h2⟩ := andO_iff.1 h1
    split at h2
    ·rename_i hpass
     rw [force_eq] at h2
     refine ⟨_, h2, trivial, fun fs a hI w hx hf => both a w fs hI hx hf fun hct K' hK => ?_⟩
     obtain ⟨hgd, hs'⟩ := under_holds h1 hct
     obtain ⟨p, _, _, hp⟩ := fresh_place S1 w (wfw hx)
     refine h3 hs' S1 w a p (wfw hx) (fun x hx' => gdsQ_rep _ (fun z hz => hI.eval hC hpre ho hx hS1o hSd hf (hops z hz)) hgd x hx') K' _ fun v S' w' hpt hr _ => hK v w' ?_ hpt.ext
     have hok' : okQ d = true := by unfold okQ; rw [hpass]
     have hz := unown (wfw hx) hpt hp hr hok'
     have e : frzQ d = d := by unfold frzQ; rw [hpass]
     rwa [e] at hz
    ·exact h2.elim
  ·exact hs.elim
theorem QInv.step {S : Sig} {c cs n0 : Nat} {a0 : Act} {fr0 fr : List D} {pre l : List Oper} {fs : List (World → Prop)} {a : Act} {o : Oper} {d : D} {v : Value} (h : QInv S l.toArray c cs n0 a0 fr0 pre fs a fr)
  (hal : NmOk fr0 cs d) {fr' : List D} (hfr : (o.dst = none ∧ fr' = fr) ∨ ∃ t d0, o.dst = some t ∧ fr[t]? = some d0 ∧ d0.owns = false ∧ t ≠ cs ∧ fr' = fr.set t d) : QInv S l.toArray c cs n0 a0 fr0 (pre ++ [o]) (fs ++ [Fact (sg S l.toArray c cs pre.length) n0 a0 d v]) (a.put o.dst v) fr' := by
 have ext : ∀ (k : Nat) (p : Oper), pre[k]? = some p → (pre ++ [o])[k]? = some p := fun k p hk => by
  rw [List.getElem?_append_left (List.getElem?_eq_some_iff.1 hk).1]; exact hk
 have extf : ∀ (k : Nat) (f : World → Prop), fs[k]? = some f → (fs ++ [Fact (sg S l.toArray c cs pre.length) n0 a0 d v])[k]? = some f := fun k p hk => by
  rw [List.getElem?_append_left (List.getElem?_eq_some_iff.1 hk).1]; exact hk
 rcases hfr with ⟨hn, rfl⟩ | ⟨t, d0, ht, h0, hd0, htc, rfl⟩
 ·rw [hn]
  refine ⟨h.size, h.len, h.defers, by simp [h.fslen], fun t e he => ?_, h.own, h.keep⟩
  rcases h.slot t e he with hl | ⟨k, p, u, k1, k2, k3, k4, k5⟩
  ·exact .inl hl
  ·exact .inr ⟨k, p, u, ext k p k1, k2, k3, extf k _ k4, k5⟩
 ·rw [ht]
  have hlt : t < fr.length := (List.getElem?_eq_some_iff.1 h0).1
  refine ⟨by simp [Act.put, h.size], by simp [h.len], by simp [Act.put, h.defers], by simp [h.fslen], fun x e he => ?_, fun u e he hoe => ?_, by rw [put_tmps_ne (Ne.symm htc)]; exact h.keep⟩
  ·by_cases hxt : x = t
   ·subst hxt
    rw [List.getElem?_set_self hlt] at he
    cases he
    refine .inr ⟨pre.length, o, v, by simp, ht, put_tmps_eq (by rw [h.size]; exact hlt), ?_, hal⟩
    rw [← h.fslen]; simp
   ·rw [List.getElem?_set_ne (Ne.symm hxt)] at he
    rw [put_tmps_ne hxt]
    rcases h.slot x e he with hl | ⟨k, p, u, k1, k2, k3, k4, k5⟩
    ·exact .inl hl
    ·exact .inr ⟨k, p, u, ext k p k1, k2, k3, extf k _ k4, k5⟩
  ·obtain ⟨g1, g2⟩ := h.own u e he hoe
   have hut : u ≠ t := fun e' => by subst e'; rw [g1] at h0; cases h0; rw [hoe] at hd0; cases hd0
   exact ⟨by rw [List.getElem?_set_ne (Ne.symm hut)]; exact g1, by rw [put_tmps_ne hut]; exact g2⟩
/-- All came: the frame is what the text says. -/
theorem QInv.fr {S : Sig} {c cs n0 : Nat} {a0 : Act} {frF fr0 fr : List D} {pre l : List Oper} {fs : List (World → Prop)} {a : Act} {w0 w : World} (h : QInv S l.toArray c cs n0 a0 fr0 pre fs a fr) (hC : QC S l c cs a0 frF fr0 w0) (hR : Rw S cs w0 w) (hf : ∀ f ∈ fs, f w) (hnob : ∀ (i : Nat) (x : List D), fr[i]? = some (D.obj x) → ∃ c' : List D, fr0[i]? = some (D.obj c')) : FR (S.drop cs) w a (fr.map (unal cs .any)) ∧ (fr0[cs]? = none → FR (S.drop cs) w a fr) := by
 have hF := hC.hF
 have hwf := hC.wf hR (.inr rfl)
 -- whatever frame holds what the owners are
 have key : ∀ F : List D, (∀ u d, u ≠ cs → fr0[u]? = some d → d.owns = true → F[u]? = some d) → ∀ (i : Nat) (d : D) (v : Value), fr[i]? = some d → a.tmps[i]? = some v → d ≠ .al cs → SlotRep (S.drop cs) w a F i v d := by
  intro F hFo i d v hd hv hnc
  have hrk : ∀ e, RefOk frF e → RefOk F e := fun e he x hx => by
   obtain ⟨cs', hc⟩ := he x hx
   have hxc : x ≠ cs := fun e => by subst e; exact hC.hno _ hc
   rw [← hC.other hxc] at hc
   exact ⟨cs', hFo x _ hxc hc rfl⟩
  rcases h.slot' i d hd with ⟨h1, h2⟩ | ⟨⟨k, p, u, k1, k2, k3, k4, k5⟩, hnx⟩
  ·by_cases hic : i = cs
   ·subst hic
    obtain rfl := hC.at_cs h2
    exact SlotRep.of (.fz (.any _)) fun t ht => by cases ht
   ·rw [hC.other hic] at h2
    have hs := hF.slot i d v h2 (h1.symm.trans hv)
    cases d with
    | al x =>
     obtain ⟨g1, d', g2, g3, g4⟩ := hs
     have hxc : x ≠ cs := fun e => hnc (by rw [e])
     rw [← hC.other hxc] at g2
     obtain ⟨q1, q2⟩ := h.own x d' g2 g3
     exact ⟨q2.trans g1, d', hFo x d' hxc g2 g3, g3, g4⟩
    | alc x o => exact absurd (hC.nonm i _ h2) (fun e => by cases e)
    | el x o sz k j => exact absurd (hC.nonm i _ h2) (fun e => by cases e)
    | es x sz k j => exact absurd (hC.nonm i _ h2) (fun e => by cases e)
    | _ => exact ⟨hR.rep hF.wf (.inr rfl) hC.hno hic hs.1 hs.2, hrk _ hs.2⟩
  ·obtain rfl : u = v := Option.some.inj (k3.symm.trans hv)
   have h2 := (hf _ (List.mem_of_getElem? k4)).2
   cases d with
   | al x =>
    rcases (k5 : AlOk fr0 cs x) with ⟨rfl, _⟩ | ⟨d', g2, g3⟩
    ·exact absurd rfl hnc
    ·have hxc : x ≠ cs := fun e => hnc (by rw [e])
     obtain ⟨q1, q2⟩ := h.own x d' g2 g3
     have hg2 := g2
     rw [hC.other hxc] at hg2
     obtain ⟨v', hv', _⟩ := hF.at hg2
     simp only at h2
     rw [tmp_eval hv'] at h2
     subst h2
     refine ⟨q2.trans hv', d', hFo x d' hxc g2 g3, g3, fun e => ?_⟩
     subst e
     rw [q1] at hd
     cases hd
     cases g3
   | ref x off =>
    obtain ⟨ds, hds⟩ := (k5 : ∃ c, fr0[x]? = some (.obj c))
    have hxc : x ≠ cs := fun e => by subst e; have := hC.at_cs hds; cases this
    have hob := hC.refOwn hR (.inr rfl) hds
    simp only at h2
    rw [sg_loc, ← hob.2] at h2
    rw [h2]
    exact ⟨.ref hob.1, fun t ht => by cases ht; exact ⟨ds, hFo x _ hxc hds rfl⟩⟩
   | obj x =>
    obtain ⟨c', hc'⟩ := hnob i x hd
    exact absurd hc' (hnx x rfl c')
   | alc x o => exact absurd (h2 : Fz _ _ _ _) (fun e => by cases e)
   | el x o sz k j => exact absurd (h2 : Fz _ _ _ _) (fun e => by cases e)
   | es x sz k j => exact absurd (h2 : Fz _ _ _ _) (fun e => by cases e)
   | _ => exact ⟨.fz (sg_to (.inr rfl) (fun _ => rfl) h2), fun t ht => (Fz.men h2 ht).elim⟩
 refine ⟨⟨hwf, by simp [h.size], h.defers, fun i d v hd hv => ?_⟩, fun hn => ⟨hwf, h.size, h.defers, fun i d v hd hv => key fr (fun u d _ h1 h2 => (h.own u d h1 h2).1) i d v hd hv fun e => ?_⟩⟩
 ·rw [List.getElem?_map] at hd
  cases hfi : fr[i]? with
  | none => rw [hfi] at hd; cases hd
  | some e =>
   rw [hfi] at hd
   cases hd
   by_cases hnc : e = .al cs
   ·subst hnc
    simp only [unal, if_pos]
    exact SlotRep.of (.fz (.any _)) fun t ht => by cases ht
   ·have hk := key (fr.map (unal cs .any)) (fun u d _ h1 h2 => by
     rw [List.getElem?_map, (h.own u d h1 h2).1]
     cases d <;> first | rfl | cases h2) i e v hfi hv hnc
    have he : unal cs .any e = e := by
     cases e with
     | al x => simp only [unal]; rw [if_neg (fun e' => hnc (by rw [e']))]
     | es x sz k j =>
      exfalso
      rcases h.slot' i _ hfi with ⟨_, h2⟩ | ⟨⟨k, p, u, k1, k2, k3, k4, k5⟩, _⟩
      ·by_cases hic : i = cs
       ·subst hic
        cases hC.at_cs h2
       ·rw [hC.other hic] at h2
        exact absurd (hC.nonm i _ h2) (fun e => by cases e)
      ·have h2 := (hf _ (List.mem_of_getElem? k4)).2
       exact absurd (h2 : Fz _ _ _ _) (fun e => by cases e)
     | _ => rfl
    rw [he]
    exact hk
 ·subst e
  rcases h.slot i _ hd with ⟨h1, h2⟩ | ⟨k, p, u, k1, k2, k3, k4, k5⟩
  ·have hic : i ≠ cs := fun e => by subst e; rw [hn] at h2; cases h2
   rw [hC.other hic] at h2
   obtain ⟨g1, d', g2, g3, g4⟩ := hF.slot i _ v h2 (h1.symm.trans hv)
   rw [hC.hX, List.getElem?_set] at hn
   simp only [if_true] at hn
   split at hn
   ·cases hn
   ·rename_i hlt
    exact hlt (List.getElem?_eq_some_iff.1 g2).1
  ·rcases (k5 : AlOk fr0 cs cs) with ⟨_, e, he⟩ | ⟨d', g2, _⟩
   ·rw [hn] at he; cases he
   ·rw [hn] at g2; cases g2
/-- What may be known behind a new variable. -/
def keepQ (t : Nat) (d : D) : D :=
 match d with
 | .ref u o => match Nat.beq u t with
  | true => .any
  | false => .ref u o
 | .al u => match Nat.beq u t with
  | true => .any
  | false => .al u
 | .gd c d => match d.flat with
  | true => .gd c d
  | false => .any
 | d => match d.flat with
  | true => d
  | false => .any
def memN (t : Nat) : List Nat → Bool
 | [] => false
 | x :: r => Nat.beq t x || memN t r
theorem memN_iff {t : Nat} : ∀ {l : List Nat}, memN t l = true ↔ t ∈ l
 | [] => by simp [memN]
 | x :: r => by simp [memN, memN_iff (l := r)]
def ownsAt (fr0 : List D) (i : Nat) : Bool := match fr0[i]? with
 | some d => d.owns
 | none => false
def keepL (t : Nat) (wr : List Nat) (fr0 : List D) : Nat → List D → List D
 | _, [] => []
 | i, d :: r => (match memN i wr && !(Nat.beq i t || ownsAt fr0 i) with
  | true => keepQ t d
  | false => d) :: keepL t wr fr0 (i + 1) r
theorem keepL_at {t : Nat} {wr : List Nat} {fr0 : List D} : ∀ {l : List D} {i j : Nat}, (keepL t wr fr0 i l)[j]? = l[j]?.map fun d => match memN (i + j) wr && !(Nat.beq (i + j) t || ownsAt fr0 (i + j)) with
  | true => keepQ t d
  | false => d
 | [], i, j => by simp [keepL]
 | d :: r, i, 0 => by simp [keepL]
 | d :: r, i, j + 1 => by
  rw [keepL, List.getElem?_cons_succ, List.getElem?_cons_succ, keepL_at (l := r), show i + 1 + j = i + (j + 1) by omega]
theorem keepL_len {t : Nat} {wr : List Nat} {fr0 : List D} : ∀ {l : List D} {i : Nat}, (keepL t wr fr0 i l).length = l.length
 | [], i => rfl
 | d :: r, i => by simp [keepL, keepL_len (l := r)]
/-- The first slot that holds a new variable. -/
def newAt (fr0 fr : List D) : List Nat → Option Nat
 | [] => none
 | t :: r => match fr[t]? with
  | some (.obj _) => match fr0[t]? with
   | some (.obj _) => newAt fr0 fr r
   | _ => some t
  | _ => newAt fr0 fr r
theorem newAt_some {fr0 fr : List D} {t : Nat} : ∀ {wr : List Nat}, newAt fr0 fr wr = some t → (∃ x, fr[t]? = some (.obj x)) ∧ ∀ c', fr0[t]? ≠ some (.obj c')
 | [], h => by cases h
 | u :: r, h => by
  unfold newAt at h
  split at h
  ·rename_i x hx
   split at h
   ·exact newAt_some h
   ·rename_i hno
    cases h
    exact ⟨⟨x, hx⟩, fun c' e => hno c' e⟩
  ·exact newAt_some h
theorem newAt_none {fr0 fr : List D} : ∀ {wr : List Nat}, newAt fr0 fr wr = none → ∀ t ∈ wr, ∀ x, fr[t]? = some (.obj x) → ∃ c', fr0[t]? = some (.obj c')
 | [], _, t, ht, _, _ => by cases ht
 | u :: r, h, t, ht, x, hx => by
  unfold newAt at h
  split at h
  ·rename_i y hy
   split at h
   ·rename_i c' hc'
    rcases List.mem_cons.1 ht with rfl | ht
    ·exact ⟨c', hc'⟩
    ·exact newAt_none h t ht x hx
   ·cases h
  ·rename_i hno
   rcases List.mem_cons.1 ht with rfl | ht
   ·exact absurd hx (hno x)
   ·exact newAt_none h t ht x hx
def wrOf (ops : List Oper) : List Nat := ops.filterMap (·.dst)
theorem QInv.nob {S : Sig} {c cs n0 : Nat} {a0 : Act} {fr0 fr : List D} {pre l : List Oper} {fs : List (World → Prop)} {a : Act} (h : QInv S l.toArray c cs n0 a0 fr0 pre fs a fr) (hn : newAt fr0 fr (wrOf pre) = none) : ∀ (i : Nat) (x : List D), fr[i]? = some (D.obj x) → ∃ c' : List D, fr0[i]? = some (D.obj c') := fun i x hx => by
 rcases h.slot' i _ hx with ⟨_, h2⟩ | ⟨⟨k, p, u, k1, k2, _⟩, _⟩
 ·exact ⟨x, h2⟩
 ·exact newAt_none hn i (List.mem_filterMap.2 ⟨p, List.mem_of_getElem? k1, k2⟩) x hx
theorem keepQ_cases (t : Nat) (d : D) : keepQ t d = .any ∨ (keepQ t d = d ∧ ((∃ u o, d = .ref u o ∧ u ≠ t) ∨ (∃ u, d = .al u ∧ u ≠ t) ∨ (∃ c e, d = .gd c e ∧ e.flat = true) ∨ d.flat = true)) := by
 have flat : ∀ {e : D}, keepQ t e = (match e.flat with | true => e | false => .any) → keepQ t e = .any ∨ (keepQ t e = e ∧ ((∃ u o, e = .ref u o ∧ u ≠ t) ∨ (∃ u, e = .al u ∧ u ≠ t) ∨ (∃ c x, e = .gd c x ∧ x.flat = true) ∨ e.flat = true)) := fun {e} h => by
  cases hf : e.flat with
  | true => rw [hf] at h; exact .inr ⟨h, .inr (.inr (.inr rfl))⟩
  | false => rw [hf] at h; exact .inl h
 cases d with
 | ref u o =>
  cases hb : Nat.beq u t with
  | true => exact .inl (by simp only [keepQ, hb])
  | false => exact .inr ⟨by simp only [keepQ, hb], .inl ⟨u, o, rfl, fun e => by subst e; simp at hb⟩⟩
 | al u =>
  cases hb : Nat.beq u t with
  | true => exact .inl (by simp only [keepQ, hb])
  | false => exact .inr ⟨by simp only [keepQ, hb], .inr (.inl ⟨u, rfl, fun e => by subst e; simp at hb⟩)⟩
 | gd c e =>
  cases hb : e.flat with
  | true => exact .inr ⟨by simp only [keepQ, hb], .inr (.inr (.inl ⟨c, e, rfl, hb⟩))⟩
  | false => exact .inl (by simp only [keepQ, hb])
 | _ => exact flat rfl
/-- All came, and a variable is new. -/
theorem QInv.frN {S : Sig} {c cs : Nat} {a0 : Act} {frF fr0 fr : List D} {pre l : List Oper} {fs : List (World → Prop)} {a : Act} {w0 w : World} (h : QInv S l.toArray c cs w0.heap.size a0 fr0 pre fs a fr) (hC : QC S l c cs a0 frF fr0 w0) (hcs : frF[cs]? = none) (hR : Rw S cs w0 w) (hf : ∀ f ∈ fs, f w) {t : Nat} (ht : newAt fr0 fr (wrOf pre) = some t) (ht0 : t ≠ 0) :
  ∃ S', Trans S w0 S' w ∧ FR S' w a (keepL t (wrOf pre) fr0 0 fr) := by
 have hF := hC.hF
 have h00 : fr0 = frF := by rw [hC.hX, List.set_eq_of_length_le (List.getElem?_eq_none_iff.1 hcs)]
 obtain ⟨⟨x, hx⟩, hno⟩ := newAt_some ht
 obtain ⟨b, e, zc, v, hv, rfl, hb0, hbo, hbh, rfl, hz⟩ : ∃ (b : Nat) (e : TypeId) (zc : List Value) (v : Value), a.tmps[t]? = some v ∧ v = .pointer (some ⟨b, 0, none⟩) ∧ w0.heap.size ≤ b ∧ (S.drop cs).own b = none ∧ w.heap[b]? = some (.cells zc.toArray e (0, 0)) ∧ x = zeroD zc ∧ zc.all Value.oneCell' = true := by
  rcases h.slot' t _ hx with ⟨_, h2⟩ | ⟨⟨k, p, v, k1, k2, k3, k4, k5⟩, _⟩
  ·exact absurd h2 (hno x)
  ·obtain ⟨b, e, zc, g1, g2, g3, g4, g5, g6⟩ := (hf _ (List.mem_of_getElem? k4)).2
   refine ⟨b, e, zc, v, k3, g1, g2, ?_, g4, g5, g6⟩
   cases hb : (S.drop cs).own b with
   | none => rfl
   | some y => have := hF.wf b y (drop_some hb).1; omega
 have t0 := hR.to (S' := S.drop cs) (.inr rfl)
 let S' : Sig := ⟨fun k => if k = b then some (.slot t, 0) else (S.drop cs).own k, fun r => if r = t + 2 then b else S.loc r⟩
 have hold : ∀ k, k < w0.heap.size → S'.own k = (S.drop cs).own k := fun k hk => if_neg (by omega)
 have hwd := hC.wf hR (S' := S.drop cs) (.inr rfl)
 have hblt : b < w.heap.size := (Array.getElem?_eq_some_iff.1 hbh).1
 have hwf : WF S' w := ⟨fun k y hy => by
  by_cases hkb : k = b
  ·subst hkb; exact hblt
  ·have : (S.drop cs).own k = some y := by simpa [S', hkb] using hy
   exact hwd k y this, hF.wf.gl.keep fun k hk hn => by
  rw [hold k hk]
  exact t0.free k hk hn⟩
 have htr : Trans S w0 S' w := ⟨t0.os, t0.tape, t0.output, t0.size, fun k hk hn => by rw [hold k hk]; exact t0.free k hk hn, fun k p q hk hs hd => by rw [hold k hk]; exact t0.foreign k p q hk hs hd, fun k p q hk hs => by rw [hold k hk]; exact t0.held k p q hk hs, if_neg (by omega)⟩
 have hxt : ∀ u c', frF[u]? = some (.obj c') → u ≠ t := fun u c' hu e => by subst e; rw [← h00] at hu; exact hno c' hu
 have hlc : ∀ {u : Nat}, u ≠ t → S'.loc (u + 2) = S.loc (u + 2) := fun hu => if_neg (by omega)
 have keep : ∀ {i : Nat} {v : Value} {d : D}, i ≠ t → i ≠ cs → Rep S w0 (.slot i) v d → RefOk frF d → Rep S' w (.slot i) v d := fun {i v d} hit hic hr hk => by
  have old : ∀ k q m, S.own k = some (q, m) → q.r ≠ cs + 2 → w.heap[k]? = w0.heap[k]? ∧ S'.own k = some (q, m) := fun k q m hs hq => by
   have hm : mine cs (S.own k) = false := by rw [hs]; simp [mine, hq]
   have hk := hF.wf _ _ hs
   refine ⟨hR.same k hk hm, ?_⟩
   rw [hold k hk, drop_own hm, hs]
  refine hr.trans hF.wf htr (by simp [S']) (fun k q m hs hu => old k q m hs fun e => ?_) (fun _ => hlc hit) fun u hm ho => ?_
  ·have := hu.1
   simp only [Place.slot] at this
   omega
  ·obtain ⟨c', hc'⟩ := hk u hm
   refine ⟨hlc (hxt u c' hc'), (old _ _ _ ho fun e => ?_).2⟩
   simp only [Place.slot] at e
   have : u = cs := by omega
   subst this
   rw [hcs] at hc'
   cases hc'
 have hat : ∀ i, (keepL t (wrOf pre) fr0 0 fr)[i]? = fr[i]?.map fun d => match memN i (wrOf pre) && !(Nat.beq i t || ownsAt fr0 i) with
   | true => keepQ t d
   | false => d := fun i => by rw [keepL_at, Nat.zero_add]
 -- owners stay
 have hown : ∀ (u : Nat) (d : D), fr0[u]? = some d → d.owns = true → (keepL t (wrOf pre) fr0 0 fr)[u]? = some d ∧ a.tmps[u]? = a0.tmps[u]? := fun u d hd ho => by
  obtain ⟨g1, g2⟩ := h.own u d hd ho
  refine ⟨?_, g2⟩
  have : ownsAt fr0 u = true := by simp [ownsAt, hd, ho]
  rw [hat, g1, this]
  simp
 have hrk : ∀ d, RefOk frF d → RefOk (keepL t (wrOf pre) fr0 0 fr) d := fun d hd u hu => by
  obtain ⟨c', hc'⟩ := hd u hu
  rw [← h00] at hc'
  exact ⟨c', (hown u _ hc' rfl).1⟩
 refine ⟨S', htr, hwf, by rw [keepL_len]; exact h.size, h.defers, fun i d v' hd hv' => ?_⟩
 rw [hat] at hd
 cases hfi : fr[i]? with
 | none => rw [hfi] at hd; cases hd
 | some d0 =>
  rw [hfi] at hd
  simp only [Option.map_some, Option.some.injEq] at hd
  by_cases hit : i = t
  ·subst hit
   rw [show Nat.beq i i = true by simp] at hd
   simp only [Bool.true_or, Bool.not_true, Bool.and_false] at hd
   subst hd
   rw [hx] at hfi
   cases hfi
   rw [hv] at hv'
   cases hv'
   refine SlotRep.of (.obj (by simp [S', Place.slot]) rfl (by simp [S']) hbh (by simp [zeroD]) (fun j y hj => ?_) fun j d y hj hy => .fz ?_) fun u hu => ?_
   ·have := Array.mem_of_getElem? hj
    exact List.all_eq_true.1 hz y (by simpa using this)
   ·have hc := CR.zero (lim := S'.lim) (w := w) hz
    exact hc.fz j d y hj (by simpa using hy)
   ·have hc := CR.zero (lim := S'.lim) (w := w) hz
    cases hu with
    | obj hj hm => exact ((hc.fz _ _ _ hj (List.getElem?_eq_getElem (lt_of_len hc.len hj))).men hm).elim
  ·-- a slot that is as it was
   have left : a.tmps[i]? = a0.tmps[i]? → fr0[i]? = some d0 → SlotRep S' w a (keepL t (wrOf pre) fr0 0 fr) i v' d0 := fun h1 h2 => by
    rw [h00] at h2
    have hic : i ≠ cs := fun e => by subst e; rw [hcs] at h2; cases h2
    have hs := hF.slot i d0 v' h2 (h1.symm.trans hv')
    cases d0 with
    | al u =>
     obtain ⟨g1, d', g2, g3, g4⟩ := hs
     rw [← h00] at g2
     obtain ⟨q1, q2⟩ := hown u d' g2 g3
     exact ⟨q2.trans g1, d', q1, g3, g4⟩
    | alc x o => exact absurd (hC.nonm i _ h2) (fun e => by cases e)
    | el x o sz k j => exact absurd (hC.nonm i _ h2) (fun e => by cases e)
    | es x sz k j => exact absurd (hC.nonm i _ h2) (fun e => by cases e)
    | _ => exact ⟨keep hit hic hs.1 hs.2, hrk _ hs.2⟩
   have anyOk : SlotRep S' w a (keepL t (wrOf pre) fr0 0 fr) i v' .any := SlotRep.of (.fz (.any _)) fun u hu => by cases hu
   have hcase : d = .any ∨ (d = d0 ∧ ((memN i (wrOf pre) = false ∨ ownsAt fr0 i = true) ∨ ((∃ u o, d0 = .ref u o ∧ u ≠ t) ∨ (∃ u, d0 = .al u ∧ u ≠ t) ∨ (∃ c e, d0 = .gd c e ∧ e.flat = true) ∨ d0.flat = true))) := by
    split at hd
    ·rcases keepQ_cases t d0 with h1 | ⟨h1, h2⟩
     ·exact .inl (hd.symm.trans h1)
     ·exact .inr ⟨hd.symm.trans h1, .inr h2⟩
    ·rename_i hm
     refine .inr ⟨hd.symm, .inl ?_⟩
     cases hmm : memN i (wrOf pre) with
     | false => exact .inl rfl
     | true =>
      right
      have : Nat.beq i t = false := by
       cases hb : Nat.beq i t with
       | false => rfl
       | true => exact absurd (Nat.eq_of_beq_eq_true hb) hit
      rw [hmm, this] at hm
      simpa using hm
   rcases hcase with rfl | ⟨rfl, hwhy⟩
   ·exact anyOk
   ·rcases h.slot' i _ hfi with ⟨h1, h2⟩ | ⟨⟨k, p, u, k1, k2, k3, k4, k5⟩, hnx⟩
    ·exact left h1 h2
    ·obtain rfl : u = v' := Option.some.inj (k3.symm.trans hv')
     have h2 := (hf _ (List.mem_of_getElem? k4)).2
     have hin : memN i (wrOf pre) = true := memN_iff.2 (List.mem_filterMap.2 ⟨p, List.mem_of_getElem? k1, k2⟩)
     rcases hwhy with (hw1 | hw1) | hw1
     ·rw [hin] at hw1; cases hw1
     ·unfold ownsAt at hw1
      split at hw1
      ·rename_i d1 hd1
       obtain ⟨q1, q2⟩ := h.own i d1 hd1 hw1
       rw [hfi] at q1
       cases q1
       exact left q2 hd1
      ·cases hw1
     ·rcases hw1 with ⟨y, o, rfl, hyt⟩ | ⟨y, rfl, hyt⟩ | ⟨cc, ee, rfl, hfl⟩ | hfl
      ·obtain ⟨ds, hds⟩ := (k5 : ∃ c, fr0[y]? = some (.obj c))
       have hob := hC.refOwn hR (S' := S.drop cs) (.inr rfl) hds
       simp only at h2
       rw [sg_loc] at h2
       rw [h2]
       have ho : S.own (S.loc (y + 2)) = some (.slot y, 0) := by
        have := hob.1
        rw [hob.2] at this
        exact (drop_some this).1
       have ho' : S'.own (S'.loc (y + 2)) = some (.slot y, 0) := by
        rw [hlc hyt, hold _ (hF.wf _ _ ho)]
        have := hob.1
        rw [hob.2] at this
        exact this
       rw [← hlc hyt]
       exact ⟨.ref ho', fun z hz => by cases hz; exact ⟨ds, (hown _ _ hds rfl).1⟩⟩
      ·rcases (k5 : AlOk fr0 cs y) with ⟨rfl, e, he⟩ | ⟨d', g2, g3⟩
       ·rw [h00, hcs] at he; cases he
       ·obtain ⟨q1, q2⟩ := hown y d' g2 g3
        have hg2 := g2
        rw [h00] at hg2
        obtain ⟨v2, hv2, _⟩ := hF.at hg2
        simp only at h2
        rw [tmp_eval hv2] at h2
        subst h2
        refine ⟨q2.trans hv2, d', q1, g3, fun e => ?_⟩
        subst e
        obtain ⟨q3, _⟩ := h.own _ _ g2 g3
        rw [hfi] at q3
        cases q3
        cases g3
      ·have hg := (Rep.fz (p := .dead) h2 : Rep _ w _ _ (.gd cc ee)).gd_inv
       exact ⟨.fz (.gd (fun hc => flat_fz (.fz (p := .dead) (hg.1 hc)) hfl) hg.2), fun z hz => by cases hz⟩
      ·have hfz : ∀ {lim : Nat → Option Nat}, Fz lim w u d := fun {lim} => by
        cases d with
        | al y => exact Bool.noConfusion (show false = true from hfl)
        | ref y o => exact Bool.noConfusion (show false = true from hfl)
        | obj y => exact Bool.noConfusion (show false = true from hfl)
        | alc y o => exact Bool.noConfusion (show false = true from hfl)
        | el y o sz k j => exact Bool.noConfusion (show false = true from hfl)
        | es y sz k j => exact Bool.noConfusion (show false = true from hfl)
        | _ => exact flat_fz (Rep.fz (p := .dead) h2) hfl
       have hmen : ∀ z, ¬ Men z d := fun z hz => ((hfz (lim := S.lim)).men hz).elim
       refine SlotRep.of (.fz hfz) fun z hz => (hmen z hz).elim
theorem hand_rw {S S' : Sig} {u : Nat} {w w' : World} (hw : WF S w) (ht : Trans (S.hand u) w S' w') : Rw S u w w' := by
 refine ⟨ht.os, ht.tape, ht.output, ht.size, fun b hb hn => (hand_old ht hb hn).1, fun b q l hs hq => ?_⟩
 exact (ht.held b ⟨2, q.path⟩ l (hw b _ hs) (by simp [Sig.hand, hs, hq])).1
/-- The one that writes. -/
theorem writeQ_sound {S : Sig} {ci cs n0 : Nat} {a0 : Act} {frF fr0 fr : List D} {l pre : List Oper} {o : Oper} {w0 : World} {d0 : D} {Q : Exit → Act → World → Prop} {K : D → Prop} (hC : QC S l ci cs a0 frF fr0 w0) (hpre : ∀ (k : Nat) (p : Oper), pre[k]? = some p → l[k]? = some p) (ho : l[pre.length]? = some o) (hic : pre.length = ci)
  (hd0 : ∀ m sz rows, d0 = .sl (m + 1) sz rows → frF[cs]? = some d0) (hs : writeQ P cs d0 fr0 fr o K) : ∃ d, K d ∧ NmOk fr0 cs d ∧ ∀ (fs : List (World → Prop)) (a : Act), QInv S l.toArray ci cs n0 a0 fr0 pre fs a fr → ∀ w, Ext w0 w → (∀ e ∈ o.after.toList, Region.binds .any e = true → (fs.getD e.on (fun _ => True)) w) → StepG P l.toArray Q (Rw S cs) o (factSpec (S.drop cs) n0 a0 d) a w := by
 have hops : ∀ x ∈ o.op.operands.toList, ∀ t, x = .tmp t → t ∈ o.looksAt l.toArray := fun x hx t e => by
  subst e
  exact List.mem_append_left _ (List.mem_filterMap.2 ⟨.tmp t, hx, rfl⟩)
 unfold writeQ at hs
 split at hs
 ·exact hs.elim
 ·rename_i hg
  split at hs
  ·rename_i c hop
   split at hs
   ·rename_i f hcal
    split at hs
    ·rename_i t xs hargs
     split at hs
     ·rename_i hroot
      split at hs
      ·rename_i m sz rows
       have hdF := hd0 m sz rows rfl
       obtain ⟨d, out, ⟨d1, ds', rfl, hl, hp, hsem⟩, hput⟩ := hs.h
       split at hput
       ·rename_i hq
        rw [force_eq] at hput
        refine ⟨_, hput, frzQ_nm hq, fun fs a hI w hx hf => ?_⟩
        have hopr : ∀ y, y ∈ Operand.tmp t :: xs → ∀ t', y = .tmp t' → t' ∈ o.looksAt l.toArray := fun y hy => hops y (by
         rw [hop]
         simp only [Op.operands, Call.operands]
         have : y ∈ c.args.toList := by rw [hargs]; exact hy
         simp
         right
         simpa using this)
        have hev : a.eval (.tmp t) = a0.eval (.tmp cs) := by
         simp only [Bool.or_eq_true] at hroot
         rcases hroot with hb | hb
         ·rw [Nat.eq_of_beq_eq_true hb]
          simp [Act.eval, Array.getD_eq_getD_getElem?, hI.keep]
         ·split at hb
          ·rename_i u hd
           obtain rfl := Nat.eq_of_beq_eq_true hb
           exact hI.evAl hC hpre ho (hopr _ (by simp) t rfl) hd hf
          ·cases hb
        have hw := (PT.ext' hC.hF.wf hx).wf
        have hrep : Rep S w (.slot cs) (a.eval (.tmp t)) (.sl (m + 1) sz rows) := by
         obtain ⟨v, hv, hsl⟩ := hC.hF.at hdF
         rw [hev, tmp_eval hv]
         exact (PT.ext' hC.hF.wf hx).rep hC.hF.wf hsl.1
        unfold StepG
        rw [if_pos (by unfold Region.wanted; rw [hg])]
        refine fun K' hK => .inl ?_
        obtain ⟨dst, op, ty, pos, after, guard⟩ := o
        obtain ⟨callee, args, argTypes⟩ := c
        simp only at hop hcal hargs
        subst hop; subst hcal
        obtain rfl : args = (.tmp t :: xs).toArray := Array.ext' hargs
        refine own_call0 (ρ := evalQ fr0 fr) hw rfl hrep (fun y hy => hI.eval hC hpre ho (Rw.ext hx) (.inl rfl) (fun e he hb hlt => absurd hic (late_dep hC.hlate (by simpa using ho) he hb hlt).2) hf (hopr y (by simp [hy]))) hl hp hsem fun v S' w' hw' ht hrep' hout => ?_
        have hrw := hand_rw hw ht
        refine hK (0, 0, v) w' ⟨drop_wf (hrw.wf hw), ?_⟩ hrw
        have hz := unhand hw ht hrep' hq
        have hn := frzQ_noal hq
        have hn' := frzQ_noref hq
        generalize frzQ d = e at hz hn hn' ⊢
        cases e with
        | al u => exact absurd rfl (hn u)
        | ref u off => exact absurd rfl (hn' u off)
        | obj x => cases hz
        | _ => exact hz
       ·exact hput.elim
      ·exact hs.elim
     ·exact hs.elim
    ·exact hs.elim
   ·exact hs.elim
  ·exact hs.elim
theorem vcQ_sound (hT : TOk P T Z) {S : Sig} {ci cs n0 : Nat} {a0 : Act} {frF fr0 : List D} {l : List Oper} {w0 : World} {d0 : D} {Q : Exit → Act → World → Prop} {K : List D → Prop} (hC : QC S l ci cs a0 frF fr0 w0) (hd0 : ∀ m sz rows, d0 = .sl (m + 1) sz rows → frF[cs]? = some d0)
  (hn0 : n0 ≤ w0.heap.size) {L : List Oper} (hQ : ∀ fr fs a w, K fr → Rw S cs w0 w → QInv S l.toArray ci cs n0 a0 fr0 L fs a fr → (∀ f ∈ fs, f w) → Q .normal a w) :
  ∀ (r pre : List Oper) (fr : List D), pre ++ r = L → (∀ (k : Nat) (p : Oper), (pre ++ r)[k]? = some p → l[k]? = some p) → vcQ P T Z l ci cs d0 fr0 pre.length r fr K → ∃ ss, ∀ (fs : List (World → Prop)) (a : Act), QInv S l.toArray ci cs n0 a0 fr0 pre fs a fr → ParW P l.toArray Q (ways S l.toArray ci cs) w0 pre.length r ss fs a
 | [], pre, fr, hL, _, hs => ⟨[], fun fs a hI => fun w hx hf => by
   rw [List.append_nil] at hL
   subst hL
   exact hQ fr fs a w hs hx hI hf⟩
 | o :: r, pre, fr, hL, hpre, hs => by
  have hpre' : ∀ (k : Nat) (p : Oper), pre[k]? = some p → l[k]? = some p := fun k p hk => hpre k p (by rw [List.getElem?_append_left (List.getElem?_eq_some_iff.1 hk).1]; exact hk)
  have ho : l[pre.length]? = some o := hpre _ o (by simp)
  have fin : ∀ {d : D}, (match o.dst with
   | none => vcQ P T Z l ci cs d0 fr0 (pre.length + 1) r fr K
   | some t => match fr[t]? with
    | some d1 => match d1.owns || Nat.beq t cs with
     | false => forceL (fr.set t d) fun fr => vcQ P T Z l ci cs d0 fr0 (pre.length + 1) r fr K
     | true => False
    | none => False) → NmOk fr0 cs d →
    (∀ (fs : List (World → Prop)) (a : Act), QInv S l.toArray ci cs n0 a0 fr0 pre fs a fr → ∀ w, (ways S l.toArray ci cs).sees pre.length w0 w → (∀ e ∈ o.after.toList, Region.binds .any e = true → (fs.getD e.on (fun _ => True)) w) → StepG P l.toArray Q ((ways S l.toArray ci cs).does pre.length) o (factSpec (sg S l.toArray ci cs pre.length) n0 a0 d) a w) →
    ∃ ss, ∀ (fs : List (World → Prop)) (a : Act), QInv S l.toArray ci cs n0 a0 fr0 pre fs a fr → ParW P l.toArray Q (ways S l.toArray ci cs) w0 pre.length (o :: r) ss fs a := by
   intro d hK hal hstep
   have rest : ∀ {fr' : List D}, ((o.dst = none ∧ fr' = fr) ∨ ∃ t d0, o.dst = some t ∧ fr[t]? = some d0 ∧ d0.owns = false ∧ t ≠ cs ∧ fr' = fr.set t d) → vcQ P T Z l ci cs d0 fr0 (pre.length + 1) r fr' K → ∃ ss, ∀ (fs : List (World → Prop)) (a : Act), QInv S l.toArray ci cs n0 a0 fr0 pre fs a fr → ParW P l.toArray Q (ways S l.toArray ci cs) w0 pre.length (o :: r) ss fs a := by
    intro fr' hfr hv
    obtain ⟨ss, hss⟩ := vcQ_sound hT hC hd0 hn0 hQ r (pre ++ [o]) fr' (by simpa using hL) (fun k p hk => hpre k p (by simpa using hk)) (by simpa using hv)
    refine ⟨factSpec (sg S l.toArray ci cs pre.length) n0 a0 d :: ss, fun fs a hI => ⟨fun w hx hf => hstep fs a hI w hx hf, fun hlate u w w' hx hf => ?_, fun u => ?_⟩⟩
    ·have e : sg S l.toArray ci cs pre.length = S := by
      unfold sg
      have hl : lateOf l.toArray ci pre.length = false := hlate
      rw [hl]
      rfl
     simp only [factSpec] at hf ⊢
     rw [e] at hf ⊢
     have hx' : Rw S cs w w' := hx
     refine ⟨hx'.wf hf.1, ?_⟩
     have h2 := hf.2
     cases d with
     | al u => exact h2
     | ref u off => exact h2
     | obj x =>
      obtain ⟨b, e, zc, g1, g2, g3, g4, g5⟩ := h2
      exact ⟨b, e, zc, g1, g2, g3, (hx'.same b (Array.getElem?_eq_some_iff.1 g4).1 (by rw [g3]; rfl)).trans g4, g5⟩
     | _ => exact h2.trans (hx'.to (.inl rfl))
    ·have := hss _ _ (hI.step (v := u.2.2) hal hfr)
     rw [List.length_append] at this
     exact this
   split at hK
   ·rename_i hn
    exact rest (.inl ⟨hn, rfl⟩) hK
   ·rename_i t ht
    split at hK
    ·rename_i d1 h0
     split at hK
     ·rename_i hd1
      simp only [Bool.or_eq_false_iff] at hd1
      rw [forceL_eq] at hK
      exact rest (.inr ⟨t, d1, ht, h0, hd1.1, fun e => by subst e; simp at hd1, rfl⟩) hK
     ·exact hK.elim
    ·exact hK.elim
  unfold vcQ at hs
  simp only at hs
  split at hs
  ·rename_i hic
   have hne : pre.length ≠ ci := fun e => by rw [e] at hic; simp at hic
   obtain ⟨d, hK, hal, hstep⟩ := stepQ_sound hT hC hpre' ho (Q := Q) hn0 hs
   refine fin hK hal fun fs a hI w hx hf => ?_
   have e1 : (ways S l.toArray ci cs).sees pre.length = Rw S cs := if_neg hne
   have e2 : (ways S l.toArray ci cs).does pre.length = Ext := if_neg hne
   rw [e1] at hx
   rw [e2]
   exact hstep fs a hI w hx hf
  ·rename_i hic
   have he := Nat.eq_of_beq_eq_true hic
   obtain ⟨d, hK, hal, hstep⟩ := writeQ_sound hC hpre' ho he hd0 (Q := Q) hs
   refine fin hK hal fun fs a hI w hx hf => ?_
   have e1 : (ways S l.toArray ci cs).sees pre.length = Ext := if_pos he
   have e2 : (ways S l.toArray ci cs).does pre.length = Rw S cs := if_pos he
   have e3 : sg S l.toArray ci cs pre.length = S.drop cs := by
    unfold sg lateOf
    rw [he]
    simp
   rw [e1] at hx
   rw [e2, e3]
   exact hstep fs a hI w hx hf
end
end Go.Proofs.YtbphihljkbdfpaaGreatDoor
namespace Go.Proofs.YtbphihljkbdfpaaGreatDoor
set_option linter.unusedSimpArgs false
set_option linter.unusedVariables false
open Go.RowKit

/-- Is the operation in the set? -/
def bitI (E : List Bool) (i : Nat) : Bool := E.getD i false
/-- What may come next. -/
def readyI (ops : List Oper) (E : List Bool) : List Nat := (List.range ops.length).filter fun i => !(bitI E i) && (match ops[i]? with
 | some o => o.after.toList.all fun e => !(Region.binds .any e) || bitI E e.on
 | none => false)
def sameB : List Bool → List Bool → Bool
 | [], [] => true
 | true :: r, true :: s => sameB r s
 | false :: r, false :: s => sameB r s
 | _, _ => false
theorem sameB_eq : ∀ {a b : List Bool}, sameB a b = true → a = b
 | [], [], _ => rfl
 | true :: r, true :: s, h => by rw [sameB_eq (a := r) (b := s) h]
 | false :: r, false :: s, h => by rw [sameB_eq (a := r) (b := s) h]
 | [], _ :: _, h => by cases h
 | true :: _, [], h => by cases h
 | false :: _, [], h => by cases h
 | true :: _, false :: _, h => by cases h
 | false :: _, true :: _, h => by cases h
def findI : List (List Bool) → List Bool → Nat → Option Nat
 | [], _, _ => none
 | x :: r, E, k => match sameB x E with
  | true => some k
  | false => findI r E (k + 1)
theorem findI_at : ∀ {L : List (List Bool)} {E : List Bool} {k p : Nat}, findI L E k = some p → k ≤ p ∧ L[p - k]? = some E
 | [], _, _, _, h => by cases h
 | x :: r, E, k, p, h => by
  simp only [findI] at h
  split at h
  ·rename_i hx
   cases h
   have := sameB_eq hx
   subst this
   exact ⟨Nat.le_refl _, by simp⟩
  ·obtain ⟨h1, h2⟩ := findI_at h
   refine ⟨by omega, ?_⟩
   rw [show p - k = (p - (k + 1)) + 1 by omega, List.getElem?_cons_succ]
   exact h2
/-- These are all the sets, the empty one first and the whole one last. -/
def okI (ops : List Oper) (n : Nat) (L : List (List Bool)) : Bool :=
 (match L with
  | E :: _ => sameB E (ops.map fun _ => false)
  | _ => false) &&
 (L.all fun E => Nat.beq E.length ops.length && (match readyI ops E with
  | [] => sameB E (L.getLastD []) && E.all (fun b => b)
  | _ => !(E.all fun b => b))) &&
 ((match findI L (L.getLastD []) 0 with
  | some p => Nat.beq (p + 1) L.length
  | none => false) && (ops.all fun o => match o.dst with
  | some d => Nat.blt d n
  | none => true))
structure EqF (a b : List D) : Prop where
 h : a = b
structure AndI (p q : Prop) : Prop where
 l : p
 r : q
structure ExE (F : List D → Prop) : Prop where
 h : ∃ f, F f
theorem ExE.go {F : List D → Prop} {f : List D} (h : F f) : ExE F := ⟨f, h⟩
def ExF : Nat → (List (List D) → Prop) → Prop
 | 0, K => K []
 | n + 1, K => ExE fun f => ExF n fun l => K (f :: l)
theorem ExF_ok : ∀ {n : Nat} {K : List (List D) → Prop}, ExF n K → ∃ l : List (List D), l.length = n ∧ K l
 | 0, K, h => ⟨[], rfl, h⟩
 | n + 1, K, h => by
  obtain ⟨f, h⟩ := h.h
  obtain ⟨l, hl, hk⟩ := ExF_ok h
  exact ⟨f :: l, by simp [hl], hk⟩
/-- One operation, under a guard or not. -/
def stepG (P : Program) (T : Nat → Option TI) (Z : Nat → Option (List Value)) (M : Nat → Bool) (ops : List Oper) (o : Oper) (fr : List D) (K : List D → Prop) : Prop :=
 match o.guard with
 | none => stepN P T Z M o fr K
 | some (j, want) => match condOf ops fr j want with
  | some c => forceL (prepG o fr) fun fr => gstepD P T Z o c fr K
  | none => False
/-- The steps out of one set. -/
def stepsAt (P : Program) (T : Nat → Option TI) (Z : Nat → Option (List Value)) (M : Nat → Bool) (ops : List Oper) (L : List (List Bool)) (F : List (List D)) (fr : List D) (E : List Bool) : List Nat → Prop
 | [] => True
 | i :: r => AndI (match ops[i]? with
  | some o => match findI L (E.set i true) 0 with
   | some p => match F[p]? with
    | some g => stepG P T Z M ops o fr fun fr' => EqF fr' g
    | none => False
   | none => False
  | none => False) (stepsAt P T Z M ops L F fr E r)
def stepsI (P : Program) (T : Nat → Option TI) (Z : Nat → Option (List Value)) (M : Nat → Bool) (ops : List Oper) (L : List (List Bool)) (F : List (List D)) : List (List Bool) → List (List D) → Prop
 | [], [] => True
 | E :: Ls, fr :: Fs => AndI (stepsAt P T Z M ops L F fr E (readyI ops E)) (stepsI P T Z M ops L F Ls Fs)
 | _, _ => False
/-- A region whose operations come in whatever order. -/
structure DrawI (ops : List Oper) (n : Nat) (F : List (List Bool) → Prop) : Prop where
 h : ∃ L, okI ops n L = true ∧ F L
theorem DrawI.go {ops : List Oper} {n : Nat} {F : List (List Bool) → Prop} (L : List (List Bool)) (h1 : okI ops n L = true) (h2 : F L) : DrawI ops n F := ⟨L, h1, h2⟩
def vcI (P : Program) (T : Nat → Option TI) (Z : Nat → Option (List Value)) (M : Nat → Bool) (ops : List Oper) (fr : List D) (K : List D → Prop) : Prop :=
 DrawI ops fr.length fun L => ExF (L.length - 1) fun Fs => AndI (stepsI P T Z M ops L (fr :: Fs) L (fr :: Fs)) (K ((fr :: Fs).getLastD []))

section
variable {P : Program} {T : Nat → Option TI} {Z : Nat → Option (List Value)} {M : Nat → Bool}
theorem stepsAt_at {ops : List Oper} {L : List (List Bool)} {F : List (List D)} {fr : List D} {E : List Bool} : ∀ {is : List Nat}, stepsAt P T Z M ops L F fr E is → ∀ i ∈ is, ∃ (o : Oper) (p : Nat) (g : List D), ops[i]? = some o ∧ findI L (E.set i true) 0 = some p ∧ F[p]? = some g ∧ stepG P T Z M ops o fr fun fr' => EqF fr' g
 | [], _, i, hi => by cases hi
 | k :: r, h, i, hi => by
  rcases List.mem_cons.1 hi with rfl | hi
  ·have h1 := h.l
   split at h1
   ·rename_i o ho
    split at h1
    ·rename_i p hp
     split at h1
     ·rename_i g hg
      exact ⟨o, p, g, ho, hp, hg, h1⟩
     ·exact h1.elim
    ·exact h1.elim
   ·exact h1.elim
  ·exact stepsAt_at h.r i hi
theorem stepsI_at {ops : List Oper} {L : List (List Bool)} {F : List (List D)} : ∀ {Ls : List (List Bool)} {Fs : List (List D)}, stepsI P T Z M ops L F Ls Fs → Ls.length = Fs.length ∧ ∀ (p : Nat) (E : List Bool) (fr : List D), Ls[p]? = some E → Fs[p]? = some fr → stepsAt P T Z M ops L F fr E (readyI ops E)
 | [], [], _ => ⟨rfl, fun p E fr h => by simp at h⟩
 | E :: Ls, fr :: Fs, h => by
  obtain ⟨h1, h2⟩ := stepsI_at h.r
  refine ⟨by simp [h1], fun p E' fr' hE hF => ?_⟩
  cases p with
  | zero => cases hE; cases hF; exact h.l
  | succ p => exact h2 p E' fr' (by simpa using hE) (by simpa using hF)
 | [], _ :: _, h => h.elim
 | _ :: _, [], h => h.elim
/-- From the data to the machine: a drawn region, set by set. -/
theorem vcI_sound (hT : TOk P T Z) (hm : P.follows .mixedOrders = true) {id : Nat} {l : List Oper} {fr : List D} {K : List D → Prop} (h : vcI P T Z M l fr K) {S : Sig} {w : World} {a : Act} (hF : FR S w a fr) {Q : Exit → Act → World → Prop}
  (hK : ∀ fr' S' w' a', K fr' → Trans S w S' w' → FR S' w' a' fr' → Q .normal a' w') : (Code.region id l.toArray true).wp P Q a w := by
 obtain ⟨L, hok, h⟩ := h.h
 obtain ⟨Fs, hFl, hst, hk⟩ := ExF_ok h
 simp only [okI, Bool.and_eq_true] at hok
 obtain ⟨⟨h0, hall⟩, hlast, hops⟩ := hok
 obtain ⟨hlen, hsteps⟩ := stepsI_at hst
 refine wp_region_noPanic (wp_region_any hm ?_)
 have hE : ∀ p E, L[p]? = some E → E.length = l.length ∧ ((readyI l E = [] ∧ E = L.getLastD [] ∧ ∀ j, j < l.length → bitI E j = true) ∨ (readyI l E ≠ [] ∧ ∃ j, j < l.length ∧ bitI E j = false)) := fun p E hp => by
  have := List.all_eq_true.1 hall E (List.mem_of_getElem? hp)
  simp only [Bool.and_eq_true] at this
  have hl := Nat.eq_of_beq_eq_true this.1
  refine ⟨hl, ?_⟩
  have h2 := this.2
  split at h2
  ·rename_i hr
   simp only [Bool.and_eq_true] at h2
   refine .inl ⟨hr, sameB_eq h2.1, fun j hj => ?_⟩
   have hjl : j < E.length := by omega
   have := List.all_eq_true.1 h2.2 E[j] (List.getElem_mem hjl)
   simp only [bitI, List.getD_eq_getElem?_getD, List.getElem?_eq_getElem hjl, Option.getD_some]
   exact this
  ·rename_i hr
   refine .inr ⟨hr, ?_⟩
   simp only [Bool.not_eq_true', List.all_eq_false] at h2
   obtain ⟨b, hb, hbf⟩ := h2
   obtain ⟨j, hj, rfl⟩ := List.mem_iff_getElem.1 hb
   refine ⟨j, by omega, ?_⟩
   simp only [bitI, List.getD_eq_getElem?_getD, List.getElem?_eq_getElem hj, Option.getD_some]
   simpa using hbf
 -- whatever came: the rest goes well
 have key : ∀ (fuel p : Nat) (E : List Bool) (g : List D), findI L E 0 = some p → (fr :: Fs)[p]? = some g → ∀ (listed : Array Bool) (S1 : Sig) (w1 : World) (b : Act), listed.size = l.length → (∀ j, j < l.length → listed.getD j false = bitI E j) → l.length ≤ fuel + listed.toList.countP (fun x => x) → FR S1 w1 b g → Trans S w S1 w1 →
   wpAny P .any l.toArray (NoPanic Q) fuel listed b w1 := by
  have hready : ∀ (E : List Bool) (listed : Array Bool), listed.size = l.length → (∀ j, j < l.length → listed.getD j false = bitI E j) → E.length = l.length → ∀ i, i ∈ Region.ready .any l.toArray listed ↔ i ∈ readyI l E := fun E listed hsz hbit hEl i => by
   have hb : ∀ k, listed.getD k false = bitI E k := fun k => by
    rcases Nat.lt_or_ge k l.length with hk | hk
    ·exact hbit k hk
    ·have h1 : ¬ k < listed.size := by omega
     have h2 : E[k]? = none := List.getElem?_eq_none (by omega)
     simp [bitI, h1, List.getD_eq_getElem?_getD, h2]
   rw [mem_ready, readyI, List.mem_filter, List.mem_range]
   simp only [Bool.and_eq_true, Bool.not_eq_true']
   constructor
   ·rintro ⟨g0, o, ho, hal⟩
    have ho' : l[i]? = some o := by simpa using ho
    have hil := (List.getElem?_eq_some_iff.1 ho').1
    refine ⟨hil, ?_, ?_⟩
    ·rw [← hb]
     have : i < listed.size := by omega
     simp [this] at g0 ⊢
     exact g0
    ·rw [ho']
     simp only [List.all_eq_true, Bool.or_eq_true, Bool.not_eq_true']
     intro e he
     cases hbd : Region.binds .any e with
     | false => exact .inl rfl
     | true => right; rw [← hb]; exact hal e (by simpa using he) hbd
   ·rintro ⟨hil, g0, g1⟩
    rw [← hb] at g0
    have hsi : i < listed.size := by omega
    have ho' : l[i]? = some l[i] := List.getElem?_eq_getElem hil
    rw [ho'] at g1
    simp only [List.all_eq_true, Bool.or_eq_true, Bool.not_eq_true'] at g1
    refine ⟨by simp [hsi] at g0 ⊢; exact g0, l[i], by simp [hil], fun e he hbd => ?_⟩
    rcases g1 e (by simpa using he) with h1 | h1
    ·rw [hbd] at h1; cases h1
    ·rw [hb]; exact h1
  have fin : ∀ (p : Nat) (E : List Bool) (g : List D), findI L E 0 = some p → (fr :: Fs)[p]? = some g → readyI l E = [] → ∀ (S1 : Sig) (w1 : World) (b : Act), FR S1 w1 b g → Trans S w S1 w1 → NoPanic Q .normal b w1 := fun p E g hp hg hr S1 w1 b hf ht => by
   have hpE := (findI_at hp).2
   rw [Nat.sub_zero] at hpE
   rcases (hE p E hpE).2 with ⟨_, rfl, _⟩ | ⟨hn, _⟩
   ·rw [hp] at hlast
    simp only at hlast
    have hpl := Nat.eq_of_beq_eq_true hlast
    have : (fr :: Fs).getLastD [] = g := by
     rw [List.getLastD_eq_getLast?, List.getLast?_eq_getElem?, ← hlen]
     rw [show L.length - 1 = p by omega, hg]
     rfl
    rw [this] at hk
    exact NoPanic.normal (hK g S1 w1 b hk ht hf)
   ·exact absurd hr hn
  intro fuel
  induction fuel with
  | zero =>
   intro p E g hp hg listed S1 w1 b hsz hbit hfu hf ht
   have hpE := (findI_at hp).2
   rw [Nat.sub_zero] at hpE
   obtain ⟨hEl, hcase⟩ := hE p E hpE
   have hall : ∀ j, j < l.length → bitI E j = true := by
    intro j hj
    rw [← hbit j hj]
    have hc : listed.toList.countP (fun x => x) = listed.toList.length := by
     have := List.countP_le_length (p := fun x => x) (l := listed.toList)
     simp only [Array.length_toList] at *
     omega
    have := List.countP_eq_length.1 hc
    have hjs : j < listed.size := by omega
    simp [hjs]
    exact this _ (by simp)
   have hr : readyI l E = [] := by
    rcases hcase with ⟨hr, _⟩ | ⟨_, j, hj, hjf⟩
    ·exact hr
    ·rw [hall j hj] at hjf; cases hjf
   refine ⟨?_, fin p E g hp hg hr S1 w1 b hf ht⟩
   rw [List.eq_nil_iff_forall_not_mem]
   intro i hi
   have := (hready E listed hsz hbit hEl i).1 hi
   rw [hr] at this
   cases this
  | succ fuel ih =>
   intro p E g hp hg listed S1 w1 b hsz hbit hfu hf ht
   have hpE := (findI_at hp).2
   rw [Nat.sub_zero] at hpE
   obtain ⟨hEl, hcase⟩ := hE p E hpE
   refine ⟨fun hr => ?_, fun i hi => ?_⟩
   ·refine fin p E g hp hg ?_ S1 w1 b hf ht
    rw [List.eq_nil_iff_forall_not_mem]
    intro i hi
    have := (hready E listed hsz hbit hEl i).2 hi
    rw [hr] at this
    cases this
   ·have hi' := (hready E listed hsz hbit hEl i).1 hi
    obtain ⟨o, p', g', ho, hp', hg', hstep⟩ := stepsAt_at (hsteps p E g hpE hg) i hi'
    have hil : i < l.length := (List.getElem?_eq_some_iff.1 ho).1
    have cont : ∀ (fr' : List D) (S' : Sig) (w' : World) (a' : Act), EqF fr' g' → Trans S1 w1 S' w' → FR S' w' a' fr' → wpAny P .any l.toArray (NoPanic Q) fuel (listed.setIfInBounds i true) a' w' := fun fr' S' w' a' he t f => ?_
    ·unfold wpOp
     simp only [show l.toArray[i]? = some o by simpa using ho]
     unfold stepG at hstep
     split at hstep
     ·rename_i hgd
      rw [if_pos (by unfold Region.wanted; rw [hgd])]
      exact .inl (stepN_sound hT hf hstep _ _ cont)
     ·rename_i j want hgd
      split at hstep
      ·rename_i c hc
       have hw := wanted_cond hf hgd hc
       rw [forceL_eq] at hstep
       obtain ⟨S2, t2, h2⟩ := prepG_sound hf o
       obtain ⟨g1, g0⟩ := gstep_sound hT h2 hstep
       rw [hw]
       cases c with
       | true =>
        rw [if_pos rfl]
        exact .inl (g1 rfl _ _ fun fr' S' w' a' he t f => cont fr' S' w' a' he (t2.trans t) f)
       | false =>
        rw [if_neg (by simp)]
        obtain ⟨fr', k, f⟩ := g0 rfl
        exact cont fr' S2 w1 _ k t2 f
      ·exact hstep.elim
    obtain ⟨rfl⟩ := he
    have his : i < listed.size := by omega
    have hnb : bitI E i = false := by
     have := (List.mem_filter.1 hi').2
     simp only [Bool.and_eq_true, Bool.not_eq_true'] at this
     exact this.1
    refine ih p' (E.set i true) fr' hp' hg' _ S' w' a' (by simpa using hsz) (fun j hj => ?_) ?_ f (ht.trans t)
    ·by_cases hji : j = i
     ·subst hji
      have : j < E.length := by omega
      simp [bitI, his, List.getD_eq_getElem?_getD, this]
     ·rw [getD_set_ne false (Ne.symm hji), hbit j hj]
      simp only [bitI, List.getD_eq_getElem?_getD, List.getElem?_set_ne (Ne.symm hji)]
    ·have hc : (listed.setIfInBounds i true).toList.countP (fun x => x) = listed.toList.countP (fun x => x) + 1 := by
      have hi2 : i < listed.toList.length := by simpa using his
      simp only [Array.toList_setIfInBounds]
      rw [List.countP_set (h := hi2)]
      have : listed.toList[i] = false := by
       have := (hbit i hil).trans hnb
       simp [his] at this
       simpa using this
      rw [this]
      simp
     rw [hc]
     omega
 have hp0 : findI L (l.map fun _ => false) 0 = some 0 := by
  split at h0
  ·rename_i E r
   simp only [findI, h0]
  ·cases h0
 refine key l.toArray.size 0 (l.map fun _ => false) fr hp0 rfl _ S w.drew a (by simp) (fun j hj => ?_) (by simp) (hF.drop (PT.ext' hF.wf (Ext.drew w))) (PT.ext' hF.wf (Ext.drew w)).trans
 simp [bitI, List.getD_eq_getElem?_getD, hj]
end
end Go.Proofs.YtbphihljkbdfpaaGreatDoor
namespace Go.Proofs.YtbphihljkbdfpaaGreatDoor
set_option linter.unusedSimpArgs false
set_option linter.unusedVariables false
open Go.RowKit

def prepR (ops : List Oper) (heads : List Nat) (fr : List D) : List D :=
 ops.foldl (fun fr o => match o.op with
  | .move x => match o.dst with
   | some t => match heads.contains t with
    | true => fr
    | false => down1 fr x
   | none => fr
  | _ => fr) fr
def headsOf (M : Nat → Bool) (ops : List Oper) : List Nat :=
 ops.filterMap fun o => match o.op with
  | .call c => match c.callee with
   | .builtin .append => match c.args.toList with
    | .tmp h :: _ => some h
    | _ => none
   | .value (.func f) => match M (1000000 + f) with
    | true => match c.args.toList with
     | .tmp h :: _ => some h
     | _ => none
    | false => none
   | _ => none
  | _ => none
/-- Where a slot's value came from. -/
def srcOf (ops : List Oper) (t : Nat) : Nat := match ops with
 | [] => t
 | o :: r => match o.dst with
  | some d => match Nat.beq d t with
   | true => match o.op with
    | .move (.tmp s) => s
    | _ => t
   | false => srcOf r t
  | none => srcOf r t
/-- The call that takes what a slot owns. -/
def writerOf (M : Nat → Bool) (all : List Oper) (fr : List D) : List Oper → Nat → Option (Nat × Nat × D)
 | [], _ => none
 | o :: r, i => match o.op with
  | .call c => match c.callee with
   | .value (.func f) => match M (1000000 + f) with
    | true => match c.args.toList with
     | .tmp t :: _ => match fr[srcOf all t]? with
      | some (.sl (m + 1) sz rows) => some (i, srcOf all t, .sl (m + 1) sz rows)
      | some (.al u) => match fr[u]? with
       | some (.sl (m + 1) sz rows) => some (i, u, .sl (m + 1) sz rows)
       | _ => writerOf M all fr r (i + 1)
      | _ => writerOf M all fr r (i + 1)
     | _ => writerOf M all fr r (i + 1)
    | false => writerOf M all fr r (i + 1)
   | _ => writerOf M all fr r (i + 1)
  | _ => writerOf M all fr r (i + 1)
theorem writerOf_at {M : Nat → Bool} {all : List Oper} {fr : List D} {k cs : Nat} {d : D} : ∀ {r : List Oper} {i : Nat}, writerOf M all fr r i = some (k, cs, d) → fr[cs]? = some d ∧ ∃ m sz rows, d = .sl (m + 1) sz rows
 | [], i, h => by cases h
 | o :: r, i, h => by
  unfold writerOf at h
  split at h
  ·split at h
   ·split at h
    ·split at h
     ·split at h
      ·cases h; exact ⟨by assumption, _, _, _, rfl⟩
      ·split at h
       ·cases h; exact ⟨by assumption, _, _, _, rfl⟩
       ·exact writerOf_at h
      ·exact writerOf_at h
     ·exact writerOf_at h
    ·exact writerOf_at h
   ·exact writerOf_at h
  ·exact writerOf_at h
def inB (ops : List Oper) (n : Nat) : Bool := ops.all fun o => match o.dst with
 | some d => decide (d < n)
 | none => true
/-- A region whose order is open: so many operations may come in any order. -/
structure DrawR (ops : List Oper) (ok : Nat → Bool) (F : Nat → Prop) : Prop where
 h : ∃ m, ok m = true ∧ F m
theorem DrawR.go {ops : List Oper} {ok : Nat → Bool} {F : Nat → Prop} (m : Nat) (h1 : ok m = true) (h2 : F m) : DrawR ops ok F := ⟨m, h1, h2⟩
/-- A test. -/
structure CondD (b : Bool) (x y : Prop) : Prop where
 t : b = true → x
 f : b = false → y
/-- The first operation that writes. -/
def effOf : List Oper → Nat → Nat
 | [], n => n
 | o :: r, n => match o.op with
  | .call c => match c.callee with
   | .builtin .append | .builtin .copy | .builtin .delete => n
   | _ => effOf r (n + 1)
  | .store _ _ _ | .mapUpdate _ _ _ _ => n
  | .alloc _ => match o.after.toList with
   | [] => match n with
    | 0 => 0
    | n + 1 => effOf r (n + 2)
   | _ => n
  | _ => effOf r (n + 1)
/-- Where a walk halts. -/
structure Halt' (p : Prop) : Prop where
 h : p
/-- What the kernel reckons. -/
structure KerB (b : Bool) (F : Prop) : Prop where
 h1 : b = true
 h2 : F
/-- Behind operations in any order: a variable that is new. -/
def afterQ (fr0 fr : List D) (wr : List Nat) (K : List D → Prop) : Prop :=
 match newAt fr0 fr wr with
 | none => K fr
 | some (t + 1) => forceL (keepL (t + 1) wr fr0 0 fr) K
 | some 0 => False
/-- A region. -/
def vcRegion (P : Program) (T : Nat → Option TI) (Z : Nat → Option (List Value)) (M : Nat → Bool) (ops : List Oper) (draw : Bool) (fr : List D) (K : List D → Prop) : Prop :=
 match draw with
 | false => vcOps P T Z M ops ops fr K
 | true => DrawR ops (fun m => parOk ops.toArray && (tailOk ops.toArray m && (Nat.ble m ops.length && inB ops fr.length))) fun m =>
   forceL (dropN (prepR ops (headsOf M ops) fr)) fun fr0 => match writerOf M ops fr0 (ops.take m) 0 with
    | none => vcQ P T Z ops ops.length fr0.length .any fr0 0 (ops.take m) fr0 fun fr' => afterQ fr0 fr' (wrOf (ops.take m)) fun fr' => vcOps P T Z M ops (ops.drop m) fr' K
    | some (k, cs, d) => KerB (lateOk ops.toArray k) (forceL (fr0.set cs .any) fun frX => vcQ P T Z ops k cs d frX 0 (ops.take m) frX fun fr' => match newAt frX fr' (wrOf (ops.take m)) with
     | none => forceL (fr'.map (unal cs .any)) fun fr' => vcOps P T Z M ops (ops.drop m) fr' K
     | some _ => False)
/-- From the data to the machine: a piece of code. -/
structure HT (P : Program) (c : Code) (fr : List D) (Q : Exit → List D → Prop) : Prop where
 h : ∀ (S : Sig) (w : World) (a : Act), FR S w a fr → ∀ Q' : Exit → Act → World → Prop, (∀ e fr' S' w' a', Q e fr' → Trans S w S' w' → FR S' w' a' fr' → Q' e a' w') → c.wp P Q' a w
def vc (P : Program) (T : Nat → Option TI) (Z : Nat → Option (List Value)) (M : Nat → Bool) : Code → List D → (Exit → List D → Prop) → Prop
 | .skip, fr, Q => Q .normal fr
 | .region id ops draw, fr, Q => match draw && M (5000000 + id) with
  | true => vcI P T Z M ops.toList fr fun fr' => Q .normal fr'
  | false => vcRegion P T Z M ops.toList draw fr fun fr' => Q .normal fr'
 | .seq x y, fr, Q => vc P T Z M x fr fun e fr' => match e with
  | .normal => vc P T Z M y fr' Q
  | e => Q e fr'
 | .cond c x y, fr, Q => match evalD fr c with
  | .bool b => CondD b (vc P T Z M x fr Q) (vc P T Z M y fr Q)
  | _ => False
 | .block id c, fr, Q => vc P T Z M c fr fun e fr' => match e with
  | .exit n => match Nat.beq n id with
   | true => Q .normal fr'
   | false => Q (.exit n) fr'
  | e => Q e fr'
 | .loop c, fr, Q => Halt' (HT P (.loop c) fr Q)
 | .exit id, fr, Q => Q (.exit id) fr
 | .ret, fr, Q => Q .ret fr
 | _, _, _ => False
section
variable {P : Program} {T : Nat → Option TI} {Z : Nat → Option (List Value)} {M : Nat → Bool}
theorem prepR_sound {w : World} {a : Act} (heads : List Nat) (ops : List Oper) {S : Sig} {fr : List D} (h : FR S w a fr) : ∃ S', Trans S w S' w ∧ FR S' w a (prepR ops heads fr) := by
 refine fold_sound (fun S fr o h => ?_) ops S fr h
 split
 ·split
  ·split
   ·exact ⟨S, Trans.refl S w, h⟩
   ·exact down1_sound h _
  ·exact ⟨S, Trans.refl S w, h⟩
 ·exact ⟨S, Trans.refl S w, h⟩
theorem reach_out {l : Array Oper} (hok : parOk l = true) {c : Nat} (hc : l.size ≤ c) : ∀ (f i : Nat), reachB l f i c = false
 | 0, _ => rfl
 | f + 1, i => by
  unfold reachB
  cases ho : l[i]? with
  | none => rfl
  | some o =>
   simp only
   rw [Array.any_eq_false']
   intro e he
   simp only [Bool.and_eq_true, Bool.or_eq_true, beq_iff_eq, not_and]
   intro hb h
   have hlt := parOk_before hok ho he hb
   have hi := (Array.getElem?_eq_some_iff.1 ho).1
   rcases h with h | h
   ·omega
   ·rw [reach_out hok hc f e.on] at h
    cases h
theorem late_out {l : Array Oper} (hok : parOk l = true) : lateOk l l.size = true := by
 refine List.all_eq_true.2 fun i hi => ?_
 cases ho : l[i]? with
 | none => rfl
 | some o =>
  refine Array.all_eq_true'.2 fun e he => ?_
  cases hb : Region.binds .any e with
  | false => rfl
  | true =>
   have hlt := parOk_before hok ho he hb
   have hi := (Array.getElem?_eq_some_iff.1 ho).1
   have : lateOf l l.size e.on = false := by
    unfold lateOf
    rw [reach_out hok (Nat.le_refl _)]
    simp
    omega
   rw [this]
   rfl
theorem vcRegion_sound (hT : TOk P T Z) (hm : P.follows .mixedOrders = true) {id : Nat} {l : List Oper} {draw : Bool} {fr : List D} {K : List D → Prop} (h : vcRegion P T Z M l draw fr K) {S : Sig} {w : World} {a : Act} (hF : FR S w a fr) {Q : Exit → Act → World → Prop}
  (hK : ∀ fr' S' w' a', K fr' → Trans S w S' w' → FR S' w' a' fr' → Q .normal a' w') : (Code.region id l.toArray draw).wp P Q a w := by
 cases draw with
 | false => exact wp_region_lit (vcOps_sound hT l hF h hK)
 | true =>
  obtain ⟨m, hb, hv⟩ := h.h
  rw [forceL_eq] at hv
  simp only [Bool.and_eq_true] at hb
  obtain ⟨hpar, htail, hml, hin⟩ := hb
  obtain ⟨S1, t1, hF1⟩ := prepR_sound (headsOf M l) l hF
  replace hF1 := hF1.dropN
  have hnm : ∀ (i : Nat) (d : D), (dropN (prepR l (headsOf M l) fr))[i]? = some d → d.nm3 = false := fun i d hd => dropN_no hd
  generalize hfr1 : dropN (prepR l (headsOf M l) fr) = fr1 at hv hF1 hnm
  have hin' : (l.all fun o => match o.dst with | some d => decide (d < a.tmps.size) | none => true) = true := by
   have : a.tmps.size = fr.length := hF.size
   rw [this]
   exact hin
  have hpre : ∀ (k : Nat) (p : Oper), ([] ++ l.take m)[k]? = some p → l[k]? = some p := fun k p hk => by
   rw [List.nil_append, List.getElem?_take] at hk
   split at hk
   ·exact hk
   ·cases hk
  have go : ∀ {ci cs : Nat} {d0 : D} {fr0 : List D} {K0 : List D → Prop}, QC S1 l ci cs a fr1 fr0 w → (∀ m sz rows, d0 = .sl (m + 1) sz rows → fr1[cs]? = some d0) → vcQ P T Z l ci cs d0 fr0 0 (l.take m) fr0 K0 →
    (∀ fr' fs a' w', K0 fr' → Rw S1 cs w w' → QInv S1 l.toArray ci cs w.heap.size a fr0 (l.take m) fs a' fr' → (∀ f ∈ fs, f w') → ∃ fr'' S2, Trans S1 w S2 w' ∧ FR S2 w' a' fr'' ∧ vcOps P T Z M l (l.drop m) fr'' K) → (Code.region id l.toArray true).wp P Q a w := by
   intro ci cs d0 fr0 K0 hC hd0 hq hend
   obtain ⟨ss, hss⟩ := vcQ_sound (Q := tailQ P l m Q) hT hC hd0 (Nat.le_refl _) (L := l.take m) (fun fr' fs a' w' hk hx hI hf => by
    obtain ⟨fr'', S2, t2, hF', hk'⟩ := hend fr' fs a' w' hk hx hI hf
    show wpList P l.toArray (NoPanic Q) (l.drop m) a' w'
    exact vcOps_sound hT _ hF' hk' fun fr'' S'' w'' a'' k t f => NoPanic.normal (hK fr'' S'' w'' a'' k (t1.trans (t2.trans t)) f)) (l.take m) [] fr0 (by simp) hpre hq
   refine wp_region_ways m (ways S1 l.toArray ci cs) hm hpar htail (Nat.le_of_ble_eq_true hml) (fun i hi hic => ?_) hin' (ss := ss) (hss [] a ⟨?_, rfl, hF1.defers, rfl, fun t d hd => .inl ⟨rfl, hd⟩, fun u d hd _ => ⟨hd, rfl⟩, rfl⟩)
   ·have hi' : lateOf l.toArray ci i = true := hi
    have hic' : i ≠ ci := hic
    unfold lateOf at hi'
    simp only [hic', decide_false, Bool.false_or] at hi'
    exact hi'
   ·rw [hC.hX, List.length_set]
    exact hF1.size
  split at hv
  ·refine go (ci := l.length) (cs := fr1.length) ⟨hF1, by rw [List.set_eq_of_length_le (Nat.le_refl _)], (fun x h => by simp at h), hpar, ?_, hnm⟩ (fun m sz rows e => by cases e) hv fun fr' fs a' w' hk hx hI hf => ?_
   rotate_left
   ·have hC : QC S1 l l.length fr1.length a fr1 fr1 w := ⟨hF1, by rw [List.set_eq_of_length_le (Nat.le_refl _)], (fun x h => by simp at h), hpar, by have := late_out hpar; simpa using this, hnm⟩
    unfold afterQ at hk
    split at hk
    ·rename_i hn
     exact ⟨fr', _, hx.to (.inr rfl), (hI.fr hC hx hf (hI.nob hn)).2 (by simp), hk⟩
    ·rename_i t hn
     rw [forceL_eq] at hk
     obtain ⟨S2, t2, f2⟩ := hI.frN hC (by simp) hx hf hn (by omega)
     exact ⟨_, S2, t2, f2, hk⟩
    ·exact hk.elim
   have := late_out hpar
   simpa using this
  ·rename_i k cs d hwr
   obtain ⟨hlate, hv⟩ := hv
   simp only [forceL_eq] at hv
   obtain ⟨hcs, m', sz, rows, rfl⟩ := writerOf_at hwr
   have hC : QC S1 l k cs a fr1 (fr1.set cs .any) w := ⟨hF1, rfl, (fun x h => by rw [hcs] at h; cases h), hpar, hlate, hnm⟩
   refine go hC (fun _ _ _ _ => hcs) hv fun fr' fs a' w' hk hx hI hf => ?_
   split at hk
   ·rename_i hn
    exact ⟨_, _, hx.to (.inr rfl), (hI.fr hC hx hf (hI.nob hn)).1, hk⟩
   ·exact hk.elim
theorem vc_sound (hT : TOk P T Z) (hm : P.follows .mixedOrders = true) : ∀ (c : Code) {fr : List D} {Q : Exit → List D → Prop}, vc P T Z M c fr Q → HT P c fr Q := by
 intro c
 induction c with
 | skip => exact fun h => ⟨fun S w a hF Q' hQ => wp_skip (hQ _ _ S w a h (Trans.refl S w) hF)⟩
 | region id ops draw =>
  intro fr Q h
  refine ⟨fun S w a hF Q' hQ => ?_⟩
  simp only [vc] at h
  split at h
  ·rename_i hb
   simp only [Bool.and_eq_true] at hb
   rw [hb.1]
   have := vcI_sound (id := id) hT hm h hF (Q := Q') fun fr' S' w' a' k t f => hQ _ _ S' w' a' k t f
   simpa using this
  have := vcRegion_sound (id := id) hT hm h hF (Q := Q') fun fr' S' w' a' k t f => hQ _ _ S' w' a' k t f
  simpa using this
 | seq x y ihx ihy =>
  intro fr Q h
  refine ⟨fun S w a hF Q' hQ => wp_seq ((ihx h).h S w a hF _ fun e fr' S' w' a' k t f => ?_)⟩
  cases e with
  | normal => exact (ihy k).h S' w' a' f Q' fun e'' fr'' S'' w'' a'' k2 t2 f2 => hQ e'' fr'' S'' w'' a'' k2 (t.trans t2) f2
  | _ => exact hQ _ _ S' w' a' k t f
 | cond c x y ihx ihy =>
  intro fr Q h
  refine ⟨fun S w a hF Q' hQ => ?_⟩
  simp only [vc] at h
  split at h
  ·rename_i b hb
   obtain ⟨q, hq⟩ := hF.eval c
   rw [hb] at hq
   exact wp_cond_split hq.bool_inv (fun e => (ihx (h.1 e)).h S w a hF Q' hQ) (fun e => (ihy (h.2 e)).h S w a hF Q' hQ)
  ·exact h.elim
 | block id c ih =>
  intro fr Q h
  refine ⟨fun S w a hF Q' hQ => wp_block ((ih h).h S w a hF _ fun e fr' S' w' a' k t f => ?_)⟩
  cases e with
  | exit n =>
   simp only at k
   simp only [Exit.inBlock]
   split at k
   ·rename_i hn
    rw [if_pos (Nat.eq_of_beq_eq_true hn)]
    exact hQ _ _ S' w' a' k t f
   ·rename_i hn
    rw [if_neg (fun e => by subst e; simp at hn)]
    exact hQ _ _ S' w' a' k t f
  | _ => exact hQ _ _ S' w' a' k t f
 | loop c => exact fun h => h.h
 | exit id => exact fun h => ⟨fun S w a hF Q' hQ => wp_exit (hQ _ _ S w a h (Trans.refl S w) hF)⟩
 | ret => exact fun h => ⟨fun S w a hF Q' hQ => wp_ret (hQ _ _ S w a h (Trans.refl S w) hF)⟩
 | _ => exact fun h => h.elim

/-- What may be forgotten of a frame. -/
def keepOk (fr fr' : List D) : Bool := (List.range fr'.length).all fun i => match fr'[i]? with
 | some (.al u) => match fr'[u]? with
  | some d => d.owns && !(Nat.beq u i)
  | none => false
 | some (.alc u _) => match fr'[u]? with
  | some d => d.isObj
  | none => false
 | some (.el u _ _ _ _) => match fr'[u]? with
  | some d => d.isObj
  | none => false
 | some (.es u _ _ _) => match fr'[u]? with
  | some d => d.owns && !(Nat.beq u i)
  | none => false
 | some d => match fr[i]? with
  | some (.obj _) => d.isObj || fr'.all (safeB i)
  | _ => true
 | none => true
structure FLe (fr fr' : List D) : Prop where
 le : DLes fr fr'
 keep : keepOk fr fr' = true
theorem isObj_ex {d : D} (h : d.isObj = true) : ∃ cs, d = .obj cs := by cases d <;> first | exact ⟨_, rfl⟩ | cases h
theorem FLe.nm {fr fr' : List D} (hl : FLe fr fr') {i : Nat} {d : D} (hd : fr'[i]? = some d) : (∀ u o, d = .alc u o → ∃ cs, fr'[u]? = some (.obj cs)) ∧ (∀ u o sz k j, d = .el u o sz k j → ∃ cs, fr'[u]? = some (.obj cs)) ∧ ∀ u sz k j, d = .es u sz k j → ∃ d' : D, fr'[u]? = some d' ∧ d'.owns = true ∧ u ≠ i := by
 have hi : i < fr'.length := (List.getElem?_eq_some_iff.1 hd).1
 have := List.all_eq_true.1 hl.keep i (List.mem_range.2 hi)
 rw [hd] at this
 refine ⟨fun u o e => ?_, fun u o sz k j e => ?_, fun u sz k j e => ?_⟩
 ·subst e
  simp only at this
  split at this
  ·rename_i d' hd'
   obtain ⟨cs, rfl⟩ := isObj_ex this
   exact ⟨cs, hd'⟩
  ·cases this
 ·subst e
  simp only at this
  split at this
  ·rename_i d' hd'
   obtain ⟨cs, rfl⟩ := isObj_ex this
   exact ⟨cs, hd'⟩
  ·cases this
 ·subst e
  simp only at this
  split at this
  ·rename_i d' hd'
   simp only [Bool.and_eq_true, Bool.not_eq_true'] at this
   exact ⟨d', hd', this.1, fun e => by subst e; simp at this⟩
  ·cases this
theorem FR.le {S : Sig} {w : World} {a : Act} {fr fr' : List D} (h : FR S w a fr) (hl : FLe fr fr') : FR S w a fr' := by
 have hlen := hl.le.len
 have hk : ∀ (i : Nat) (d : D), fr'[i]? = some d → (∀ u, d = .al u → ∃ d' : D, fr'[u]? = some d' ∧ d'.owns = true ∧ u ≠ i) ∧ ∀ cs, fr[i]? = some (D.obj cs) → d.isObj = true ∨ ∀ e ∈ fr', ¬ Men i e := fun i d hd => by
  have hi : i < fr'.length := (List.getElem?_eq_some_iff.1 hd).1
  have := List.all_eq_true.1 hl.keep i (List.mem_range.2 hi)
  rw [hd] at this
  refine ⟨fun u e => ?_, fun cs hc => ?_⟩
  ·subst e
   simp only at this
   split at this
   ·rename_i d' hd'
    simp only [Bool.and_eq_true, Bool.not_eq_true'] at this
    exact ⟨d', hd', this.1, fun e => by subst e; simp at this⟩
   ·cases this
  ·cases d with
   | obj cs => exact .inl rfl
   | al u =>
    exfalso
    have h1 := hl.le.get (i := i) hc hd
    cases h1
   | alc u o =>
    exfalso
    have h1 := hl.le.get (i := i) hc hd
    cases h1
   | el u o sz k j =>
    exfalso
    have h1 := hl.le.get (i := i) hc hd
    cases h1
   | es u sz k j =>
    exfalso
    have h1 := hl.le.get (i := i) hc hd
    cases h1
   | _ =>
    simp only [hc, Bool.or_eq_true] at this
    rcases this with h | h
    ·exact .inl h
    ·exact .inr fun e he => safeB_men (List.all_eq_true.1 h e he)
 have hmen : ∀ {d d' : D}, DLe d d' → ∀ {p : Place} {v : Value}, Rep S w p v d → ∀ t, Men t d' → Men t d := by
  intro d d' hd
  induction hd with
  | refl d => exact fun _ t h => h
  | any d => exact fun _ t h => by cases h
  | nil m sz => exact fun _ t h => by cases h
  | own sz rows => exact fun _ t h => by cases h
  | rows => exact fun _ t h => by cases h
  | gd hc _ ih =>
   intro p v hr t hm
   have hf := hr.gd_inv.1 hc
   exact (hf.men (ih (.fz (p := p) hf) t hm)).elim
  | @agg ds ds' hl' _ ih =>
   intro p v hr t hm
   obtain ⟨vs, rfl, h1, h2, h3⟩ := hr.agg_inv
   cases hm with
   | @agg j _ d0 hj hm =>
    have hjl : j < ds.length := by rw [← hl']; exact (List.getElem?_eq_some_iff.1 hj).1
    exact .agg (List.getElem?_eq_getElem hjl) (ih j _ _ (List.getElem?_eq_getElem hjl) hj (h3 j _ _ (List.getElem?_eq_getElem hjl) (List.getElem?_eq_getElem (by omega))) t hm)
  | @tup ds ds' hl' _ ih =>
   intro p v hr t hm
   obtain ⟨vs, rfl, h1, h3⟩ := hr.tup_inv
   cases hm with
   | @tup j _ d0 hj hm =>
    have hjl : j < ds.length := by rw [← hl']; exact (List.getElem?_eq_some_iff.1 hj).1
    exact .tup (List.getElem?_eq_getElem hjl) (ih j _ _ (List.getElem?_eq_getElem hjl) hj (h3 j _ _ (List.getElem?_eq_getElem hjl) (List.getElem?_eq_getElem (by omega))) t hm)
 refine ⟨h.wf, h.size.trans hlen.symm, h.defers, fun i d' v hd' hv => ?_⟩
 have hi : i < fr.length := by rw [← hlen]; exact (List.getElem?_eq_some_iff.1 hd').1
 obtain ⟨d, hd⟩ : ∃ d, fr[i]? = some d := ⟨fr[i], List.getElem?_eq_getElem hi⟩
 have hle := hl.le.get hd hd'
 have hs := h.slot i d v hd hv
 obtain ⟨k1, _⟩ := hk i d' hd'
 have rest : d.isNm = false → SlotRep S w a fr' i v d' := fun hn => by
  obtain ⟨r1, r2⟩ := hs.rep hn
  refine SlotRep.of (Rep.le hle r1) fun t ht => ?_
  obtain ⟨cs, hc⟩ := r2 t (hmen hle r1 t ht)
  have htl : t < fr'.length := by rw [hlen]; exact (List.getElem?_eq_some_iff.1 hc).1
  have := ((hk t _ (List.getElem?_eq_getElem htl)).2 cs hc).resolve_right fun hno => hno d' (List.mem_of_getElem? hd') ht
  rw [List.getElem?_eq_getElem htl]
  generalize fr'[t] = e at this
  cases e <;> first | exact ⟨_, rfl⟩ | cases this
 cases d with
 | al u =>
  cases hle with
  | refl =>
   obtain ⟨d'', g1, g2, g3⟩ := k1 u rfl
   exact ⟨hs.1, d'', g1, g2, g3⟩
  | any => exact SlotRep.of (.fz (.any _)) fun t ht => by cases ht
 | alc u o =>
  cases hle with
  | refl => exact ⟨hs.1.mono (w := w) (w' := w) ((hl.nm hd').1 _ _ rfl) rfl rfl, hs.2⟩
  | any => exact SlotRep.of (.fz (.any _)) fun t ht => by cases ht
 | el u o sz k j =>
  cases hle with
  | refl => exact ⟨hs.1.mono (w := w) (w' := w) ((hl.nm hd').2.1 _ _ _ _ _ rfl) rfl rfl, hs.2⟩
  | any => exact SlotRep.of (.fz (.any _)) fun t ht => by cases ht
 | es u sz k j =>
  cases hle with
  | refl => exact ⟨(hl.nm hd').2.2 _ _ _ _ rfl, hs.2⟩
  | any => exact SlotRep.of (.fz (.any _)) fun t ht => by cases ht
 | _ => exact rest rfl
/-- A loop: frames by a ghost that goes down. -/
theorem vc_loop (hT : TOk P T Z) (hm : P.follows .mixedOrders = true) {c : Code} {fr : List D} {Q : Exit → List D → Prop} {α : Type} (I : α → List D) (pre : α → Prop) (μ : α → Nat) (x0 : α) (h0 : FLe fr (I x0)) (hp0 : pre x0)
  (step : ∀ x, pre x → vc P T Z M c (I x) fun e fr' => match e with
   | .normal => Halt' (∃ y, pre y ∧ μ y < μ x ∧ FLe fr' (I y))
   | e => Q e fr') : HT P (.loop c) fr Q := by
 refine ⟨fun S w a hF Q' hQ => ?_⟩
 refine wp_loop_ghost (fun n a' w' => ∃ x S', pre x ∧ μ x = n ∧ Trans S w S' w' ∧ FR S' w' a' (I x)) (μ x0) ⟨x0, S, hp0, rfl, Trans.refl S w, hF.le h0⟩ ?_
 rintro n a1 w1 ⟨x, S1, hx, rfl, t1, f1⟩
 refine (vc_sound hT hm c (step x hx)).h S1 w1 a1 f1 _ fun e fr' S' w' a' k t f => ?_
 cases e with
 | normal =>
  obtain ⟨y, hy, hlt, hle⟩ := k.h
  exact ⟨μ y, hlt, y, S', hy, rfl, t1.trans t, f.le hle⟩
 | _ => exact hQ _ _ S' w' a' k (t1.trans t) f
end
end Go.Proofs.YtbphihljkbdfpaaGreatDoor
