/- Every operation as one function on data, and why the machine does the same. -/
import Derived.Test.YtdopillligfdiaaDoorM6
namespace Go.Proofs.YtdopillligfdiaaDoor
set_option linter.unusedSimpArgs false
set_option linter.unusedVariables false
open Go.RowKit

/-- What has to be shown besides. -/
@[reducible] def holds : Option Prop → Prop
  | none => True
  | some s => s
/-- A condition, and what follows. -/
structure SideD (s q : Prop) : Prop where
  side : s
  rest : q
def andO : Option Prop → Prop → Prop
  | none, q => q
  | some s, q => SideD s q
theorem andO_iff {s : Option Prop} {q : Prop} : andO s q ↔ holds s ∧ q := by
  cases s with
  | none => exact ⟨fun h => ⟨trivial, h⟩, fun h => h.2⟩
  | some s => exact ⟨fun h => ⟨h.1, h.2⟩, fun h => ⟨h.1, h.2⟩⟩
/-- A number that is reckoned. -/
structure NumE (F : Int → Prop) : Prop where
  h : ∃ r, F r
/-- An element that is looked up. -/
structure IdxE (F : List D → Prop) : Prop where
  h : ∃ r, F r
/-- What a call gives. -/
structure CallE (F : D → Prop) : Prop where
  h : ∃ d, F d
theorem NumE.go {F : Int → Prop} {r : Int} (h : F r) : NumE F := ⟨r, h⟩
theorem IdxE.go {F : List D → Prop} {r : List D} (h : F r) : IdxE F := ⟨r, h⟩
/-- What stands at a key. -/
structure LookE (F : D → Bool → Prop) : Prop where
  h : ∃ r o, F r o
theorem LookE.go {F : D → Bool → Prop} {r : D} {o : Bool} (h : F r o) : LookE F := ⟨r, o, h⟩
theorem CallE.go {F : D → Prop} {d : D} (h : F d) : CallE F := ⟨d, h⟩
def intD (op : BinOp) (k : IntKind) (p q : Int) (K : Option Prop → D → Prop) : Prop :=
  match op with
  | .add => NumE fun r => K (some (k.wrap (p + q) = r)) (.int k r)
  | .sub => NumE fun r => K (some (k.wrap (p - q) = r)) (.int k r)
  | .mul => NumE fun r => K (some (k.wrap (p * q) = r)) (.int k r)
  | .quo => NumE fun r => K (some (q ≠ 0 ∧ k.wrap (p.tdiv q) = r)) (.int k r)
  | .rem => NumE fun r => K (some (q ≠ 0 ∧ p.tmod q = r)) (.int k r)
  | .eql => K none (.bool (p == q))
  | .neq => K none (.bool (!(p == q)))
  | .lss => K none (.bool (decide (p < q)))
  | .leq => K none (.bool (decide (p ≤ q)))
  | .gtr => K none (.bool (decide (q < p)))
  | .geq => K none (.bool (decide (q ≤ p)))
  | _ => False
def strD (op : BinOp) (s u : List UInt8) (K : Option Prop → D → Prop) : Prop :=
  match op with
  | .add => K (some (s.length + u.length ≤ 9223372036854775807)) (.str (s ++ u))
  | .eql => K none (.bool (s == u))
  | .neq => K none (.bool (!(s == u)))
  | .lss => K none (.bool (Op.bytesLess s u))
  | .leq => K none (.bool (Op.bytesLess s u || s == u))
  | .gtr => K none (.bool (!(Op.bytesLess s u || s == u)))
  | .geq => K none (.bool (!Op.bytesLess s u))
  | _ => False
def binD (op : BinOp) (ti : Option TI) (x y : D) (K : Option Prop → D → Prop) : Prop :=
  match x, y with
  | .int k p, .int k' q => match op with
    | .shr => NumE fun r => K (some (0 ≤ q ∧ q ≤ k.bits ∧ p / 2 ^ q.toNat = r)) (.int k r)
    | op => match sameK k k' with
      | true => intD op k p q K
      | false => False
  | .str s, .str u => strD op s u K
  | .bool b, .bool c => match ti with
    | some .bool => match op with
      | .eql => K none (.bool (b == c))
      | .neq => K none (.bool (!(b == c)))
      | _ => False
    | _ => False
  | .agg xs, .agg ys => match ti with
    | some (.st _ _ (some ks)) => match deqs xs ys with
      | some b => match op with
        | .eql => K (some (fitsD ks xs ys)) (.bool b)
        | .neq => K (some (fitsD ks xs ys)) (.bool (!b))
        | _ => False
      | none => False
    | _ => False
  | _, _ => False
/-- A bound of a slice. -/
def bndD (ρ : Operand → D) (dflt : Int) : Option Operand → Option Int
  | none => some dflt
  | some o => match ρ o with
    | .int _ n => some n
    | _ => none
theorem bndD_ok {ρ : Operand → D} {dflt n : Int} : ∀ {x : Option Operand}, bndD ρ dflt x = some n → BndOk ρ x dflt n
  | none, h => by cases h; rfl
  | some o, h => by
    simp only [bndD] at h
    split at h
    · rename_i k m hk
      cases h
      exact ⟨k, hk⟩
    · cases h
def callD (P : Program) (T : Nat → Option TI) (ρ : Operand → D) (c : Call) (K : Option Prop → D → Prop) : Prop :=
  match c.callee with
  | .value (.func f) => CallE fun d => K (some (Gives P f (c.args.toList.map ρ) d)) d
  | .value (.tmp t) => match ρ (.tmp t) with
    | .fn f cs => CallE fun d => K (some (Gives P f (c.args.toList.map ρ ++ cs) d)) d
    | _ => False
  | .builtin .len => match c.args.toList, c.argTypes.toList with
    | [x], [t] => match T t, ρ x with
      | some .str, .str s => K none (.int .i64 s.length)
      | some (.sl _ _ _ _), .sl _ _ rows => K none (.int .i64 rows.length)
      | some (.sl _ _ _ _), .nil => K none (.int .i64 0)
      | some (.mp _ _ _ _), .mp _ es => K none (.int .i64 es.length)
      | _, _ => False
    | _, _ => False
  | .builtin .max => match c.args.toList with
    | [x, y] => match ρ x, ρ y with
      | .int k p, .int k' q => match sameK k k' with
        | true => K none (.int k (max p q))
        | false => False
      | _, _ => False
    | _ => False
  | .builtin .min => match c.args.toList with
    | [x, y] => match ρ x, ρ y with
      | .int k p, .int k' q => match sameK k k' with
        | true => K none (.int k (min p q))
        | false => False
      | _, _ => False
    | _ => False
  | _ => False
/-- What an operation gives; where it is stuck, nothing. -/
def opD (P : Program) (T : Nat → Option TI) (Z : Nat → Option (List Value)) (ρ : Operand → D) (o : Op) (K : Option Prop → D → Prop) : Prop :=
  match o with
  | .move x | .assign x => match (ρ x).plain with
    | true => K none (ρ x)
    | false => False
  | .nilCheck x => match ρ x with
    | .ptr cs => K none (.ptr cs)
    | .ref t o => K none (.ref t o)
    | _ => False
  | .extract x i => match ρ x with
    | .tup ds => match ds[i]? with
      | some d => match d.one with
        | true => K none d
        | false => False
      | none => False
    | _ => False
  | .unOp .not _ x => match ρ x with
    | .bool b => K none (.bool (!b))
    | _ => False
  | .unOp .neg _ x => match ρ x with
    | .int k p => NumE fun r => K (some (k.wrap (0 - p) = r)) (.int k r)
    | _ => False
  | .binOp op t x y _ => binD op (T t) (ρ x) (ρ y) K
  | .convert s t x => match T s, T t, ρ x with
    | some (.int _), some (.int k), .int _ p => NumE fun r => K (some (k.wrap p = r)) (.int k r)
    | _, _, _ => False
  | .field t x i => match T t, ρ x with
    | some (.st _ fl _), .agg cs => match fl[i]? with
      | some (off, 1, false) => match cs[off]? with
        | some d => match d.one with
          | true => K none d
          | false => False
        | none => False
      | some (off, n + 1, true) => match cs.all D.one with
        | true => K none (.agg ((cs.drop off).take (n + 1)))
        | false => False
      | _ => False
    | _, _ => False
  | .fieldAddr t x i => match T t with
    | some (.st _ fl _) => match fl[i]? with
      | some (off, _ + 1, _) => match ρ x with
        | .ptr cs => K none (.ptr (cs.drop off))
        | .ref u o => K none (.ref u (o + off))
        | _ => False
      | _ => False
    | _ => False
  | .load t x => match ρ x with
    | .ptr cs => match T t with
      | some (.st n _ _) => match Nat.ble n cs.length with
        | true => K none (.agg (cs.take n))
        | false => False
      | some _ => match cs with
        | d :: _ => K none d
        | [] => False
      | none => False
    | _ => False
  | .indexAddr t x y => match T t, ρ x, ρ y with
    | some (.sl _ sz _ _), .sl m sz' rows, .int _ j => match Nat.ble m 1 with
      | true => match Nat.beq sz' sz with
        | true => IdxE fun r => K (some (0 ≤ j ∧ rows[j.toNat]? = some r)) (.ptr r)
        | false => False
      | false => False
    | _, _, _ => False
  | .index t x y => match T t, ρ x, ρ y with
    | some .str, .str s, .int _ j => K (some (0 ≤ j ∧ j < s.length)) (.int .u8 (s.getD j.toNat 0).toNat)
    | _, _, _ => False
  | .slice t x lo hi none => match T t, ρ x with
    | some .str, .str s => match bndD ρ 0 lo, bndD ρ s.length hi with
      | some l, some h => K (some (0 ≤ l ∧ l ≤ h ∧ h ≤ s.length)) (.str ((s.take h.toNat).drop l.toNat))
      | _, _ => False
    | some (.sl _ sz _ _), .sl 0 sz' rows => match Nat.beq sz' sz with
      | true => match bndD ρ 0 lo, bndD ρ rows.length hi with
        | some l, some h => K (some (0 ≤ l ∧ l ≤ h ∧ h ≤ rows.length)) (.sl 0 sz ((rows.take h.toNat).drop l.toNat))
        | _, _ => False
      | false => False
    | _, _ => False
  | .box _ x => match (ρ x).cellsOf with
    | some cs => K none (.ptr cs)
    | none => False
  | .build t parts => match T t, Z t with
    | some (.st _ fl _), some zc => match zc.all Value.oneCell' with
      | true => match fillR (fl.map fun x => (x.1, x.2.1)) (zeroD zc) (parts.toList.map fun x => (x.1, (ρ x.2).cellsOf)) with
        | some cs => K none (.agg cs)
        | none => False
      | false => False
    | _, _ => False
  | .buildSlice t m parts => match T t with
    | some (.sl _ sz _ _) => match sequ (parts.toList.map fun x => (ρ x.2).cellsOf) with
      | some rows => match (parts.toList.map (·.1) == List.range m) && ((rows.all fun r => r.length == sz) && (Nat.blt 0 sz && Nat.ble (m * sz) 16777216)) with
        | true => K none (.sl 2 sz rows)
        | false => False
      | none => False
    | _ => False
  | .call c => callD P T ρ c K
  | .makeMap t none => match T t with
    | some (.mp _ _ kd _) => K none (.mp kd [])
    | _ => False
  | .lookup t x y ok => match T t, ρ x, (ρ y).keyV with
    | some (.mp _ _ kd z), .mp kd' es, some kv => match sameKD kd kd' && fitK kd kv with
      | true => LookE fun r o => match ok with
        | true => K (some (lookD es kv z = r ∧ (findV kv es).isSome = o)) (.tup [r, .bool o])
        | false => K (some (lookD es kv z = r)) r
      | false => False
    | _, _, _ => False
  | .makeFunc (.func f) first xs => match first.toList with
    | [] => match xs.toList.all fun x => match ρ x with | .ref _ _ => true | d => d.one with
      | true => K none (.fn f (xs.toList.map ρ))
      | false => False
    | _ => False
  | _ => False
section
variable {P : Program} {T : Nat → Option TI} {Z : Nat → Option (List Value)} {dst : Option Tmp} {ty : TypeId} {pos : String} {after : Array Edge} {guard : Option (Nat × Bool)} {ρ : Operand → D} {K : Option Prop → D → Prop}
def Does (P : Program) (o : Oper) (ρ : Operand → D) (K : Option Prop → D → Prop) : Prop := ∃ s d, K s d ∧ (holds s → OpOk P o ρ d)
theorem binD_sound (hT : TOk P T Z) {op : BinOp} {t t' : TypeId} {x y : Operand} (h : binD op (T t) (ρ x) (ρ y) K) : Does P (Oper.mk dst (.binOp op t x y t') ty pos after guard) ρ K := by
  unfold binD at h
  split at h
  · rename_i k p k' q hx hy
    split at h
    · obtain ⟨r, h⟩ := h.h; exact ⟨_, _, h, fun ⟨h0, h1, hr⟩ => ok_shr hx hy h0 h1 hr⟩
    split at h
    · rename_i hk
      obtain rfl := sameK_eq hk
      unfold intD at h
      split at h
      · obtain ⟨r, h⟩ := h.h; exact ⟨_, _, h, fun hr => ok_add hx hy hr⟩
      · obtain ⟨r, h⟩ := h.h; exact ⟨_, _, h, fun hr => ok_sub hx hy hr⟩
      · obtain ⟨r, h⟩ := h.h; exact ⟨_, _, h, fun hr => ok_mul hx hy hr⟩
      · obtain ⟨r, h⟩ := h.h; exact ⟨_, _, h, fun ⟨h0, hr⟩ => ok_quo hx hy h0 hr⟩
      · obtain ⟨r, h⟩ := h.h; exact ⟨_, _, h, fun ⟨h0, hr⟩ => ok_rem hx hy h0 hr⟩
      · exact ⟨_, _, h, fun _ => ok_eql hx hy⟩
      · exact ⟨_, _, h, fun _ => ok_neq hx hy⟩
      · exact ⟨_, _, h, fun _ => ok_lss hx hy⟩
      · exact ⟨_, _, h, fun _ => ok_leq hx hy⟩
      · exact ⟨_, _, h, fun _ => ok_gtr hx hy⟩
      · exact ⟨_, _, h, fun _ => ok_geq hx hy⟩
      · exact h.elim
    · exact h.elim
  · rename_i s u hx hy
    unfold strD at h
    split at h
    · exact ⟨_, _, h, fun hl => ok_cat hx hy hl⟩
    · exact ⟨_, _, h, fun _ => ok_seql hx hy⟩
    · exact ⟨_, _, h, fun _ => ok_sneq hx hy⟩
    · exact ⟨_, _, h, fun _ => ok_slss hx hy⟩
    · exact ⟨_, _, h, fun _ => ok_sleq hx hy⟩
    · exact ⟨_, _, h, fun _ => ok_sgtr hx hy⟩
    · exact ⟨_, _, h, fun _ => ok_sgeq hx hy⟩
    · exact h.elim
  · rename_i b c hx hy
    split at h
    · rename_i ht
      haveI := (hT.ty _ _ ht).1
      split at h
      · exact ⟨_, _, h, fun _ => ok_boolEq hx hy⟩
      · exact ⟨_, _, h, fun _ => ok_boolNe hx hy⟩
      · exact h.elim
    · exact h.elim
  · rename_i xs ys hx hy
    split at h
    · rename_i n fl ks ht
      haveI := (hT.ty _ _ ht).2.2.2 ks rfl
      split at h
      · rename_i b hb
        split at h
        · exact ⟨_, _, h, fun hf => ok_structEq hx hy hf hb⟩
        · exact ⟨_, _, h, fun hf => ok_structNe hx hy hf hb⟩
        · exact h.elim
      · exact h.elim
    · exact h.elim
  · exact h.elim
theorem TFact.slice {t e sz by' : Nat} {zc : List Value} (h : TFact P t (.sl e sz by' zc)) : TSlice P t e := h.1
theorem TFact.one {t : Nat} {i : TI} (h : TFact P t i) (hn : ∀ n fl ks, i ≠ .st n fl ks) : TOne P t := by
  cases i with
  | int k => exact h.2
  | str => exact h.2
  | bool => exact h.2
  | one => exact h
  | sl e sz b zc => exact h.2.2.1
  | mp k e kd z => exact h.2.2
  | st n fl ks => exact absurd rfl (hn n fl ks)
theorem arr0 {α : Type} {a : Array α} (h : a.toList = []) : a = #[] := Array.ext' h
theorem arr1 {α : Type} {a : Array α} {x : α} (h : a.toList = [x]) : a = #[x] := Array.ext' h
theorem arr2 {α : Type} {a : Array α} {x y : α} (h : a.toList = [x, y]) : a = #[x, y] := Array.ext' h
theorem callD_sound (hT : TOk P T Z) {c : Call} (h : callD P T ρ c K) : Does P (Oper.mk dst (.call c) ty pos after guard) ρ K := by
  obtain ⟨callee, args, argTypes⟩ := c
  unfold callD at h
  simp only at h
  split at h
  · obtain ⟨d, h⟩ := h.h; exact ⟨_, _, h, fun hg => ok_call hg⟩
  · split at h
    · rename_i hf
      obtain ⟨d, h⟩ := h.h; exact ⟨_, _, h, fun hg => ok_callF hf hg⟩
    · exact h.elim
  · split at h
    · rename_i h1 h2
      obtain rfl := arr1 h1
      obtain rfl := arr1 h2
      split at h
      · rename_i ht hx
        haveI := (hT.ty _ _ ht).1
        exact ⟨_, _, h, fun _ => ok_lenS hx⟩
      · rename_i ht hx
        haveI := (hT.ty _ _ ht).1
        exact ⟨_, _, h, fun _ => ok_lenSl hx⟩
      · rename_i ht hx
        haveI := (hT.ty _ _ ht).1
        exact ⟨_, _, h, fun _ => ok_lenNil hx⟩
      · rename_i ht hx
        haveI := (hT.ty _ _ ht).1
        exact ⟨_, _, h, fun _ => ok_lenMap hx⟩
      · exact h.elim
    · exact h.elim
  · split at h
    · rename_i h1
      obtain rfl := arr2 h1
      split at h
      · rename_i hx hy
        split at h
        · rename_i hk
          obtain rfl := sameK_eq hk
          exact ⟨_, _, h, fun _ => ok_max hx hy⟩
        · exact h.elim
      · exact h.elim
    · exact h.elim
  · split at h
    · rename_i h1
      obtain rfl := arr2 h1
      split at h
      · rename_i hx hy
        split at h
        · rename_i hk
          obtain rfl := sameK_eq hk
          exact ⟨_, _, h, fun _ => ok_min hx hy⟩
        · exact h.elim
      · exact h.elim
    · exact h.elim
  · exact h.elim
theorem opD_sound (hT : TOk P T Z) {o : Op} (h : opD P T Z ρ o K) : Does P (Oper.mk dst o ty pos after guard) ρ K := by
  unfold opD at h
  split at h
  · split at h
    · rename_i hp; exact ⟨_, _, h, fun _ => ok_move hp⟩
    · exact h.elim
  · split at h
    · rename_i hp; exact ⟨_, _, h, fun _ => ok_assign hp⟩
    · exact h.elim
  · split at h
    · rename_i hx; exact ⟨_, _, h, fun _ => ok_nilPtr hx⟩
    · rename_i hx; exact ⟨_, _, h, fun _ => ok_nilRef hx⟩
    · exact h.elim
  · split at h
    · rename_i hx
      split at h
      · rename_i hd
        split at h
        · rename_i ho; exact ⟨_, _, h, fun _ => ok_extract hx hd ho⟩
        · exact h.elim
      · exact h.elim
    · exact h.elim
  · split at h
    · rename_i hx; exact ⟨_, _, h, fun _ => ok_not hx⟩
    · exact h.elim
  · split at h
    · rename_i hx; obtain ⟨r, h⟩ := h.h; exact ⟨_, _, h, fun hr => ok_neg hx hr⟩
    · exact h.elim
  · exact binD_sound hT h
  · split at h
    · rename_i hs ht hx
      obtain ⟨r, h⟩ := h.h
      haveI := (hT.ty _ _ ht).1
      exact ⟨_, _, h, fun hr => ok_conv ⟨_, (hT.ty _ _ hs).1.h⟩ hx hr⟩
    · exact h.elim
  · split at h
    · rename_i ht hx
      split at h
      · rename_i hf
        haveI := (hT.ty _ _ ht).2.1 _ _ _ _ hf
        split at h
        · rename_i hd
          split at h
          · rename_i ho; exact ⟨_, _, h, fun _ => ok_field1 hx hd ho⟩
          · exact h.elim
        · exact h.elim
      · rename_i hf
        haveI := (hT.ty _ _ ht).2.1 _ _ _ _ hf
        split at h
        · rename_i ho; exact ⟨_, _, h, fun _ => ok_fieldN hx ho⟩
        · exact h.elim
      · exact h.elim
    · exact h.elim
  · split at h
    · rename_i ht
      split at h
      · rename_i hf
        haveI := (hT.ty _ _ ht).2.1 _ _ _ _ hf
        split at h
        · rename_i hx; exact ⟨_, _, h, fun _ => ok_fieldAddr hx⟩
        · rename_i hx; exact ⟨_, _, h, fun _ => ok_fieldRef hx⟩
        · exact h.elim
      · exact h.elim
    · exact h.elim
  · split at h
    · rename_i hx
      split at h
      · rename_i ht
        haveI := (hT.ty _ _ ht).1
        split at h
        · rename_i hn; exact ⟨_, _, h, fun _ => ok_loadN hx (Nat.le_of_ble_eq_true hn)⟩
        · exact h.elim
      · rename_i i hi ht
        haveI := (hT.ty _ _ ht).one (fun n fl ks e => hi n fl ks e)
        split at h
        · exact ⟨_, _, h, fun _ => ok_load1 hx⟩
        · exact h.elim
      · exact h.elim
    · exact h.elim
  · split at h
    · rename_i ht hx hy
      haveI := (hT.ty _ _ ht).1
      haveI := (hT.ty _ _ ht).2.1
      split at h
      · rename_i hm
        split at h
        · rename_i he
          obtain rfl := Nat.eq_of_beq_eq_true he
          obtain ⟨r, h⟩ := h.h
          exact ⟨_, _, h, fun ⟨h0, hr⟩ => ok_indexAddr hx (by have := Nat.le_of_ble_eq_true hm; omega) hy h0 hr⟩
        · exact h.elim
      · exact h.elim
    · exact h.elim
  · split at h
    · rename_i ht hx hy
      haveI := (hT.ty _ _ ht).1
      exact ⟨_, _, h, fun ⟨h0, h1⟩ => ok_indexS hx hy h0 h1⟩
    · exact h.elim
  · split at h
    · rename_i ht hx
      haveI := (hT.ty _ _ ht).1
      split at h
      · rename_i hl hh
        exact ⟨_, _, h, fun ⟨h0, h1, h2⟩ => ok_sliceS hx (bndD_ok hl) (bndD_ok hh) h0 h1 h2⟩
      · exact h.elim
    · rename_i ht hx
      haveI := (hT.ty _ _ ht).1
      haveI := (hT.ty _ _ ht).2.1
      split at h
      · rename_i he
        obtain rfl := Nat.eq_of_beq_eq_true he
        split at h
        · rename_i hl hh
          exact ⟨_, _, h, fun ⟨h0, h1, h2⟩ => ok_sliceSl hx (bndD_ok hl) (bndD_ok hh) h0 h1 h2⟩
        · exact h.elim
      · exact h.elim
    · exact h.elim
  · split at h
    · rename_i hc; exact ⟨_, _, h, fun _ => ok_box hc⟩
    · exact h.elim
  · split at h
    · rename_i ht hz
      haveI := (hT.ty _ _ ht).2.2.1
      haveI := hT.zer _ _ hz
      split at h
      · rename_i h1
        split at h
        · rename_i hf; exact ⟨_, _, h, fun _ => ok_build h1 hf⟩
        · exact h.elim
      · exact h.elim
    · exact h.elim
  · split at h
    · rename_i ht
      haveI := (hT.ty _ _ ht).1
      haveI := (hT.ty _ _ ht).2.1
      haveI := (hT.ty _ _ ht).2.2.2.2
      split at h
      · rename_i hr
        split at h
        · rename_i hb
          simp only [Bool.and_eq_true, beq_iff_eq] at hb
          exact ⟨_, _, h, fun _ => ok_buildSlice hb.1 hr hb.2.1 (by simp only [Bool.and_eq_true, decide_eq_true_eq]; exact ⟨by have := hb.2.2.1; simp [Nat.blt] at this; omega, Nat.le_of_ble_eq_true hb.2.2.2⟩)⟩
        · exact h.elim
      · exact h.elim
    · exact h.elim
  · exact callD_sound hT h
  · split at h
    · rename_i ht
      haveI := (hT.ty _ _ ht).1
      exact ⟨_, _, h, fun _ => ok_makeMap⟩
    · exact h.elim
  · split at h
    · rename_i ht hx hy
      haveI := (hT.ty _ _ ht).1
      haveI := (hT.ty _ _ ht).2.1
      split at h
      · rename_i hb
        simp only [Bool.and_eq_true] at hb
        obtain rfl := sameKD_eq hb.1
        obtain ⟨r, o, h⟩ := h.h
        split at h
        · exact ⟨_, _, h, fun hs => ok_lookupOk hx hy hb.2 hs⟩
        · exact ⟨_, _, h, fun hs => ok_lookup hx hy hb.2 hs⟩
      · exact h.elim
    · exact h.elim
  · split at h
    · rename_i hfirst
      obtain rfl := arr0 hfirst
      split at h
      · rename_i ha
        exact ⟨_, _, h, fun _ => ok_makeFunc ha⟩
      · exact h.elim
    · exact h.elim
  · exact h.elim
end
end Go.Proofs.YtdopillligfdiaaDoor
