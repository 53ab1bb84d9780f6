/- Data that memory holds, as plain trees: what cells and values represent, who may write which block, and what a step of the machine leaves of it. -/
import Derived.Test.YtdopillligfdiaaDoorEq
namespace Go.Proofs.YtdopillligfdiaaDoor
set_option linter.unusedSimpArgs false
set_option linter.unusedVariables false
open Go.RowKit

def sameK : IntKind → IntKind → Bool
  | .i8, .i8 | .i16, .i16 | .i32, .i32 | .i64, .i64 | .u8, .u8 | .u16, .u16 | .u32, .u32 | .u64, .u64 => true
  | _, _ => false
theorem sameK_eq {k k' : IntKind} (h : sameK k k' = true) : k = k' := by
  cases k <;> cases k' <;> first | rfl | cases h
/-- What the keys of a map are. -/
inductive KD where
  | int (k : IntKind)
  | str
  | bool
  | st (ks : List Nat)
def sameKs : List Nat → List Nat → Bool
  | [], [] => true
  | x :: xs, y :: ys => Nat.beq x y && sameKs xs ys
  | _, _ => false
theorem sameKs_eq : ∀ {xs ys : List Nat}, sameKs xs ys = true → xs = ys
  | [], [], _ => rfl
  | x :: xs, y :: ys, h => by
    simp only [sameKs, Bool.and_eq_true] at h
    rw [Nat.eq_of_beq_eq_true h.1, sameKs_eq h.2]
  | [], _ :: _, h => by cases h
  | _ :: _, [], h => by cases h
def sameKD : KD → KD → Bool
  | .int k, .int k' => sameK k k'
  | .str, .str | .bool, .bool => true
  | .st ks, .st ks' => sameKs ks ks'
  | _, _ => false
theorem sameKD_eq {k k' : KD} (h : sameKD k k' = true) : k = k' := by
  cases k <;> cases k' <;> first | rfl | (cases h; done) | (simp only [sameKD] at h; rw [sameK_eq h]) | (simp only [sameKD] at h; rw [sameKs_eq h])
/-- Texts and truth values. -/
def fitS : List Nat → List Value → Bool
  | [], [] => true
  | 1 :: ks, .string _ :: xs => fitS ks xs
  | 2 :: ks, .bool _ :: xs => fitS ks xs
  | _, _ => false
/-- Is it a key of this kind? -/
def fitK : KD → Value → Bool
  | .int k, .int k' _ => sameK k k'
  | .str, .string _ => true
  | .bool, .bool _ => true
  | .st ks, .agg cs => fitS ks cs.toList
  | _, _ => false
/-- Are they the same key? -/
def keyEq : Value → Value → Bool
  | .agg xs, .agg ys => veqs xs.toList ys.toList
  | x, y => veq x y
/-- What stands at a key. -/
def findV (k : Value) : List (Value × Value) → Option Value
  | [] => none
  | (k', v) :: r => match keyEq k k' with
    | true => some v
    | false => findV k r
def putV (k v : Value) : List (Value × Value) → List (Value × Value)
  | [] => [(k, v)]
  | (k', v') :: r => match keyEq k k' with
    | true => (k, v) :: r
    | false => (k', v') :: putV k v r
def delV (k : Value) : List (Value × Value) → List (Value × Value)
  | [] => []
  | (k', v') :: r => match keyEq k k' with
    | true => r
    | false => (k', v') :: delV k r
/-- What a value is, without its addresses. -/
inductive D where
  | any
  | int (k : IntKind) (n : Int)
  | bool (b : Bool)
  | str (s : List UInt8)
  | pv (v : Value)
  | nil
  | sl (m sz : Nat) (rows : List (List D))
  | ptr (cells : List D)
  | obj (cells : List D)
  | ref (t off : Nat)
  | gref (c : Bool) (t off : Nat)
  | al (t : Nat)
  | fn (f : Nat) (caps : List D)
  | gd (c : Bool) (d : D)
  | agg (cs : List D)
  | tup (ds : List D)
  | mp (kd : KD) (es : List (Value × Value))
instance : Inhabited D := ⟨.any⟩

/-- A place: 0 nobody's, 1 the result, t + 2 the slot t; within it a way. -/
structure Place where
  r : Nat
  path : List Nat
  deriving DecidableEq
def Place.at (p : Place) (i : Nat) : Place := ⟨p.r, p.path ++ [i]⟩
def Place.slot (t : Nat) : Place := ⟨t + 2, []⟩
def Place.res : Place := ⟨1, []⟩
def Place.dead : Place := ⟨0, []⟩
/-- Who may write a block, and from which cell on; where the object of a slot lies. -/
structure Sig where
  own : Nat → Option (Place × Nat)
  loc : Nat → Nat
def Sig.lim (S : Sig) (b : Nat) : Option Nat := (S.own b).map (·.2)
def OkC (lim : Nat → Option Nat) (b off : Nat) : Prop := ∀ s, lim b = some s → off < s

/-- What never changes any more. -/
inductive Fz (lim : Nat → Option Nat) (w : World) : Value → D → Prop
  | any (v : Value) : Fz lim w v .any
  | int (k : IntKind) (n : Int) : Fz lim w (.int k n) (.int k n)
  | bool (b : Bool) : Fz lim w (.bool b) (.bool b)
  | str (s : List UInt8) : Fz lim w (.string ⟨s.toArray⟩) (.str s)
  | pv (v : Value) : Fz lim w v (.pv v)
  | nil : Fz lim w (.slice none 0 0) .nil
  | slNil (m sz : Nat) : Fz lim w (.slice none 0 0) (.sl m sz [])
  | slE (A : Addr) (sz : Nat) : Fz lim w (.slice (some A) 0 0) (.sl 0 sz [])
  | sl {b o cap sz : Nat} {rows : List (List D)} (cv : Nat → Nat → Value) (hc : rows.length ≤ cap) (hm : cap ≤ maxLen) (hr : ∀ (k : Nat) (r : List D), rows[k]? = some r → r.length = sz)
      (h : ∀ (k : Nat) (r : List D) (j : Nat) (d : D), rows[k]? = some r → r[j]? = some d → w.cell? ⟨b, o + k * sz + j, none⟩ = some (cv k j) ∧ OkC lim b (o + k * sz + j) ∧ (cv k j).oneCell' = true)
      (ih : ∀ (k : Nat) (r : List D) (j : Nat) (d : D), rows[k]? = some r → r[j]? = some d → Fz lim w (cv k j) d) : Fz lim w (.slice (some ⟨b, o, none⟩) rows.length cap) (.sl 0 sz rows)
  | ptr {b o : Nat} {cs : List D} (cv : Nat → Value) (h : ∀ (j : Nat) (d : D), cs[j]? = some d → w.cell? ⟨b, o + j, none⟩ = some (cv j) ∧ OkC lim b (o + j) ∧ (cv j).oneCell' = true)
      (ih : ∀ (j : Nat) (d : D), cs[j]? = some d → Fz lim w (cv j) d) : Fz lim w (.pointer (some ⟨b, o, none⟩)) (.ptr cs)
  | fn {f : Nat} {ds : List D} (vs : List Value) (hl : vs.length = ds.length) (ih : ∀ (j : Nat) (d : D) (v : Value), ds[j]? = some d → vs[j]? = some v → Fz lim w v d) : Fz lim w (.func (.func f) #[] vs.toArray) (.fn f ds)
  | gd {v : Value} {c : Bool} {d : D} (h1 : c = true → Fz lim w v d) (h0 : c = false → v = undef) : Fz lim w v (.gd c d)
  | agg {cs : List D} (vs : List Value) (hl : vs.length = cs.length) (h1 : ∀ v : Value, v ∈ vs → v.oneCell' = true) (ih : ∀ (j : Nat) (d : D) (v : Value), cs[j]? = some d → vs[j]? = some v → Fz lim w v d) : Fz lim w (.agg vs.toArray) (.agg cs)
  | tup {ds : List D} (vs : List Value) (hl : vs.length = ds.length) (ih : ∀ (j : Nat) (d : D) (v : Value), ds[j]? = some d → vs[j]? = some v → Fz lim w v d) : Fz lim w (.tuple vs.toArray) (.tup ds)

/-- The block of a slice that its place alone may write. -/
structure OwnAt (S : Sig) (w : World) (p : Place) (b cap m sz : Nat) (rows : List (List D)) (cur : Array Value) (e : TypeId) : Prop where
  mode : m = 1 ∨ m = 2
  heap : w.heap[b]? = some (.cells cur e (0, 0))
  le : rows.length ≤ cap
  max : cap ≤ maxLen
  size : cur.size = cap * sz
  each : ∀ r : List D, r ∈ rows → r.length = sz
  own : S.own b = some (p, if m = 2 then 0 else rows.length * sz)
  cells : ∀ (k : Nat) (r : List D) (j : Nat) (d : D), rows[k]? = some r → r[j]? = some d → ∃ v, cur[k * sz + j]? = some v ∧ v.oneCell' = true ∧ Fz S.lim w v d

/-- What a value is at a place. -/
inductive Rep (S : Sig) (w : World) : Place → Value → D → Prop
  | fz {p : Place} {v : Value} {d : D} (h : Fz S.lim w v d) : Rep S w p v d
  | own {p : Place} {b cap m sz : Nat} {rows : List (List D)} {cur : Array Value} {e : TypeId} (h : OwnAt S w p b cap m sz rows cur e) : Rep S w p (.slice (some ⟨b, 0, none⟩) rows.length cap) (.sl m sz rows)
  | obj {t b : Nat} {path : List Nat} {cs : List D} {cur : Array Value} {e : TypeId} (hb : S.own b = some (⟨t, path⟩, 0)) (hp : path = []) (hl : S.loc t = b) (hh : w.heap[b]? = some (.cells cur e (0, 0))) (hs : cs.length = cur.size)
      (h1 : ∀ (i : Nat) (v : Value), cur[i]? = some v → v.oneCell' = true) (ih : ∀ (i : Nat) (d : D) (v : Value), cs[i]? = some d → cur[i]? = some v → Rep S w ⟨t, [i]⟩ v d) : Rep S w ⟨t, path⟩ (.pointer (some ⟨b, 0, none⟩)) (.obj cs)
  | ref {p : Place} {t off : Nat} (h : S.own (S.loc (t + 2)) = some (.slot t, 0)) : Rep S w p (.pointer (some ⟨S.loc (t + 2), off, none⟩)) (.ref t off)
  | gref {p : Place} {t off : Nat} {c : Bool} {v : Value} (h : S.own (S.loc (t + 2)) = some (.slot t, 0)) (hv : v = if c = true then .pointer (some ⟨S.loc (t + 2), off, none⟩) else undef) : Rep S w p v (.gref c t off)
  | fn {p : Place} {f : Nat} {ds : List D} (vs : List Value) (hl : vs.length = ds.length) (ih : ∀ (j : Nat) (d : D) (v : Value), ds[j]? = some d → vs[j]? = some v → Rep S w .dead v d) : Rep S w p (.func (.func f) #[] vs.toArray) (.fn f ds)
  | agg {p : Place} {cs : List D} (vs : List Value) (hl : vs.length = cs.length) (h1 : ∀ v : Value, v ∈ vs → v.oneCell' = true) (ih : ∀ (j : Nat) (d : D) (v : Value), cs[j]? = some d → vs[j]? = some v → Rep S w (p.at j) v d) : Rep S w p (.agg vs.toArray) (.agg cs)
  | tup {p : Place} {ds : List D} (vs : List Value) (hl : vs.length = ds.length) (ih : ∀ (j : Nat) (d : D) (v : Value), ds[j]? = some d → vs[j]? = some v → Rep S w (p.at j) v d) : Rep S w p (.tuple vs.toArray) (.tup ds)
  | mp {p : Place} {b clock : Nat} {kd : KD} {es : List (Value × Value)} {ents : Array MapEntry} (hb : S.own b = some (p, 0)) (hh : w.heap[b]? = some (.map ents clock)) (he : ents.toList.map (fun e => (e.key, e.val)) = es) (hk : ∀ x ∈ es, fitK kd x.1 = true) : Rep S w p (.map (some b)) (.mp kd es)

/-- Nothing is owned that is not there. -/
def WF (S : Sig) (w : World) : Prop := ∀ b x, S.own b = some x → b < w.heap.size

/-- What may become of a block of which the cells below l stay. -/
def Keeps (l : Nat) (o o' : Option Obj) : Prop :=
  ∀ cur e fz, o = some (.cells cur e fz) → ∃ cur', o' = some (.cells cur' e fz) ∧ cur'.size = cur.size ∧ ∀ off, off < l → cur'[off]? = cur[off]?
/-- What the machine leaves: foreign blocks as they were, own ones below their limits. -/
structure Trans (S : Sig) (w : World) (S' : Sig) (w' : World) : Prop where
  os : w'.os = w.os
  tape : w'.tape = w.tape
  output : w'.output = w.output
  size : w.heap.size ≤ w'.heap.size
  free : ∀ b, b < w.heap.size → S.own b = none → w'.heap[b]? = w.heap[b]? ∧ S'.own b = none
  foreign : ∀ b p l, b < w.heap.size → S.own b = some (p, l) → p.r = 0 → w'.heap[b]? = w.heap[b]? ∧ S'.own b = some (p, l)
  held : ∀ b p l, b < w.heap.size → S.own b = some (p, l) → Keeps l w.heap[b]? w'.heap[b]? ∧ ∀ x, S'.own b = some x → l ≤ x.2
  loc2 : S'.loc 2 = S.loc 2
theorem Keeps.refl (l : Nat) (o : Option Obj) : Keeps l o o := fun cur _ _ h => ⟨cur, h, rfl, fun _ _ => rfl⟩
theorem Keeps.of_eq {l : Nat} {o o' : Option Obj} (h : o' = o) : Keeps l o o' := h ▸ Keeps.refl l o
theorem Keeps.trans {l l' : Nat} {a b c : Option Obj} (h : Keeps l a b) (k : Keeps l' b c) (hl : l ≤ l') : Keeps l a c := fun cur e fz ha => by
  obtain ⟨cur', h1, h2, h3⟩ := h cur e fz ha
  obtain ⟨cur'', k1, k2, k3⟩ := k cur' e fz h1
  exact ⟨cur'', k1, k2.trans h2, fun off ho => (k3 off (by omega)).trans (h3 off ho)⟩
theorem Trans.refl (S : Sig) (w : World) : Trans S w S w :=
  ⟨rfl, rfl, rfl, Nat.le_refl _, fun _ _ h => ⟨rfl, h⟩, fun _ _ _ _ h _ => ⟨rfl, h⟩, fun _ _ _ _ h => ⟨Keeps.refl _ _, fun x hx => by rw [h] at hx; cases hx; exact Nat.le_refl _⟩, rfl⟩
theorem Trans.trans {S1 S2 S3 : Sig} {a b c : World} (h : Trans S1 a S2 b) (k : Trans S2 b S3 c) : Trans S1 a S3 c := by
  refine ⟨k.os.trans h.os, k.tape.trans h.tape, k.output.trans h.output, Nat.le_trans h.size k.size, fun i hi hn => ?_, fun i p l hi hs hd => ?_, fun i p l hi hs => ?_, k.loc2.trans h.loc2⟩
  · obtain ⟨h1, h2⟩ := h.free i hi hn
    obtain ⟨k1, k2⟩ := k.free i (Nat.lt_of_lt_of_le hi h.size) h2
    exact ⟨k1.trans h1, k2⟩
  · obtain ⟨h1, h2⟩ := h.foreign i p l hi hs hd
    obtain ⟨k1, k2⟩ := k.foreign i p l (Nat.lt_of_lt_of_le hi h.size) h2 hd
    exact ⟨k1.trans h1, k2⟩
  · obtain ⟨h1, h2⟩ := h.held i p l hi hs
    have hi' := Nat.lt_of_lt_of_le hi h.size
    cases ho : S2.own i with
    | none =>
      obtain ⟨k1, k2⟩ := k.free i hi' ho
      exact ⟨by rw [k1]; exact h1, fun x hx => by rw [k2] at hx; cases hx⟩
    | some y =>
      obtain ⟨q, l'⟩ := y
      have hl := h2 _ ho
      obtain ⟨k1, k2⟩ := k.held i q l' hi' ho
      exact ⟨h1.trans k1 hl, fun x hx => Nat.le_trans hl (k2 x hx)⟩
theorem cell_lt {w : World} {b o : Nat} {v : Value} (h : w.cell? ⟨b, o, none⟩ = some v) : b < w.heap.size := block_lt_of_cell h
/-- A cell below its limit stays. -/
theorem Trans.cell {S S' : Sig} {w w' : World} (h : Trans S w S' w') {b o : Nat} {v : Value} (hc : w.cell? ⟨b, o, none⟩ = some v) (hk : OkC S.lim b o) : w'.cell? ⟨b, o, none⟩ = some v ∧ OkC S'.lim b o := by
  have hb := cell_lt hc
  cases ho : S.own b with
  | none =>
    obtain ⟨h1, h2⟩ := h.free b hb ho
    exact ⟨by rw [World.cell?_of_block (a := ⟨b, o, none⟩) (w := w) h1]; exact hc, fun s hs => by simp [Sig.lim, h2] at hs⟩
  | some x =>
    obtain ⟨p, l⟩ := x
    obtain ⟨h1, h2⟩ := h.held b p l hb ho
    have hol : o < l := hk l (by simp [Sig.lim, ho])
    refine ⟨?_, fun s hs => ?_⟩
    · unfold World.cell? at hc ⊢
      simp only at hc ⊢
      split at hc
      · rename_i cur e fz he
        obtain ⟨cur', k1, _, k3⟩ := h1 cur e fz he
        rw [k1]
        simp only at hc ⊢
        rw [k3 o hol]
        exact hc
      · cases hc
    · cases ho' : S'.own b with
      | none => simp [Sig.lim, ho'] at hs
      | some y =>
        have := h2 y ho'
        simp only [Sig.lim, ho', Option.map_some, Option.some.injEq] at hs
        omega
theorem Fz.trans {S S' : Sig} {w w' : World} {v : Value} {d : D} (hf : Fz S.lim w v d) (h : Trans S w S' w') : Fz S'.lim w' v d := by
  induction hf with
  | any v => exact .any v
  | int k n => exact .int k n
  | bool b => exact .bool b
  | str s => exact .str s
  | pv v => exact .pv v
  | nil => exact .nil
  | slNil m sz => exact .slNil m sz
  | slE A sz => exact .slE A sz
  | sl cv hc hm hr hh _ ih =>
    exact .sl cv hc hm hr (fun k r j d h1 h2 => by
      obtain ⟨g1, g2, g3⟩ := hh k r j d h1 h2
      obtain ⟨q1, q2⟩ := h.cell g1 g2
      exact ⟨q1, q2, g3⟩) ih
  | ptr cv hh _ ih =>
    exact .ptr cv (fun j d h1 => by
      obtain ⟨g1, g2, g3⟩ := hh j d h1
      obtain ⟨q1, q2⟩ := h.cell g1 g2
      exact ⟨q1, q2, g3⟩) ih
  | fn vs hl _ ih => exact .fn vs hl ih
  | gd _ h0 ih => exact .gd ih h0
  | agg vs hl h1 _ ih => exact .agg vs hl h1 ih
  | tup vs hl _ ih => exact .tup vs hl ih
/-- A smaller limit asks less. -/
theorem Fz.mono {lim lim' : Nat → Option Nat} {w : World} {v : Value} {d : D} (hf : Fz lim w v d) (h : ∀ b o v, w.cell? ⟨b, o, none⟩ = some v → OkC lim b o → OkC lim' b o) : Fz lim' w v d := by
  induction hf with
  | any v => exact .any v
  | int k n => exact .int k n
  | bool b => exact .bool b
  | str s => exact .str s
  | pv v => exact .pv v
  | nil => exact .nil
  | slNil m sz => exact .slNil m sz
  | slE A sz => exact .slE A sz
  | sl cv hc hm hr hh _ ih => exact .sl cv hc hm hr (fun k r j d h1 h2 => ⟨(hh k r j d h1 h2).1, h _ _ _ (hh k r j d h1 h2).1 (hh k r j d h1 h2).2.1, (hh k r j d h1 h2).2.2⟩) ih
  | ptr cv hh _ ih => exact .ptr cv (fun j d h1 => ⟨(hh j d h1).1, h _ _ _ (hh j d h1).1 (hh j d h1).2.1, (hh j d h1).2.2⟩) ih
  | fn vs hl _ ih => exact .fn vs hl ih
  | gd _ h0 ih => exact .gd ih h0
  | agg vs hl h1 _ ih => exact .agg vs hl h1 ih
  | tup vs hl _ ih => exact .tup vs hl ih
/-- p lies at or within q. -/
def Place.under (p q : Place) : Prop := p.r = q.r ∧ ∃ l, p.path = q.path ++ l
theorem Place.under_refl (p : Place) : p.under p := ⟨rfl, [], by simp⟩
theorem Place.at_under (p : Place) (i : Nat) : (p.at i).under p := ⟨rfl, [i], rfl⟩
theorem Place.under_trans {p q r : Place} (h : p.under q) (k : q.under r) : p.under r := by
  obtain ⟨h1, l, h2⟩ := h
  obtain ⟨k1, m, k2⟩ := k
  exact ⟨h1.trans k1, m ++ l, by rw [h2, k2, List.append_assoc]⟩
/-- It leads to the object of slot t. -/
inductive Men (t : Nat) : D → Prop
  | ref (off : Nat) : Men t (.ref t off)
  | gref (c : Bool) (off : Nat) : Men t (.gref c t off)
  | fn {f j : Nat} {cs : List D} {d : D} (h : cs[j]? = some d) (hm : Men t d) : Men t (.fn f cs)
  | agg {j : Nat} {cs : List D} {d : D} (h : cs[j]? = some d) (hm : Men t d) : Men t (.agg cs)
  | tup {j : Nat} {cs : List D} {d : D} (h : cs[j]? = some d) (hm : Men t d) : Men t (.tup cs)
  | obj {j : Nat} {cs : List D} {d : D} (h : cs[j]? = some d) (hm : Men t d) : Men t (.obj cs)
theorem lt_of_len {α β : Type} {l : List α} {l' : List β} {j : Nat} {d : β} (h : l.length = l'.length) (hd : l'[j]? = some d) : j < l.length := by
  rw [h]; exact (List.getElem?_eq_some_iff.1 hd).1
theorem Fz.men {lim : Nat → Option Nat} {w : World} {v : Value} {d : D} (h : Fz lim w v d) {t : Nat} : ¬ Men t d := by
  induction h with
  | fn vs hl _ ih =>
    intro hm
    cases hm with | fn hd hm => exact ih _ _ _ hd (List.getElem?_eq_getElem (lt_of_len hl hd)) hm
  | agg vs hl _ _ ih =>
    intro hm
    cases hm with | agg hd hm => exact ih _ _ _ hd (List.getElem?_eq_getElem (lt_of_len hl hd)) hm
  | tup vs hl _ ih =>
    intro hm
    cases hm with | tup hd hm => exact ih _ _ _ hd (List.getElem?_eq_getElem (lt_of_len hl hd)) hm
  | _ => intro hm; cases hm
/-- What is at a place stays, if its own blocks are left alone and the objects that it leads to stay where they are. -/
theorem Rep.trans {S S' : Sig} {w w' : World} {p : Place} {v : Value} {d : D} (hr : Rep S w p v d) (hw : WF S w) (h : Trans S w S' w') (h0 : S'.loc 0 = S.loc 0)
    (ho : ∀ b q l, S.own b = some (q, l) → q.under p → w'.heap[b]? = w.heap[b]? ∧ S'.own b = some (q, l))
    (hp : p.path = [] → S'.loc p.r = S.loc p.r)
    (hl : ∀ t, Men t d → S.own (S.loc (t + 2)) = some (.slot t, 0) → S'.loc (t + 2) = S.loc (t + 2) ∧ S'.own (S.loc (t + 2)) = some (.slot t, 0)) : Rep S' w' p v d := by
  induction hr with
  | fz hf => exact .fz (hf.trans h)
  | @own p b cap m sz rows cur e g =>
    obtain ⟨h1, h2⟩ := ho b p _ g.own (Place.under_refl p)
    exact .own ⟨g.mode, h1.trans g.heap, g.le, g.max, g.size, g.each, h2, fun k r j d k1 k2 => by
      obtain ⟨u, u1, u2, u3⟩ := g.cells k r j d k1 k2
      exact ⟨u, u1, u2, u3.trans h⟩⟩
  | @mp p b clock kd es ents hb hh he hk =>
    obtain ⟨k1, k2⟩ := ho b p _ hb (Place.under_refl p)
    exact .mp k2 (k1.trans hh) he hk
  | @obj t b path cs cur e hb hpath hloc hh hs h1 _ ih =>
    subst hpath
    obtain ⟨k1, k2⟩ := ho b _ _ hb (Place.under_refl _)
    exact .obj k2 rfl ((hp rfl).trans hloc) (k1.trans hh) hs h1 fun i d v hd hv => ih i d v hd hv (fun b' q l hq hu => ho b' q l hq (Place.under_trans hu ⟨rfl, [i], rfl⟩)) (fun e => by cases e) fun t' hm => hl t' (.obj hd hm)
  | @ref p t off g =>
    obtain ⟨q1, q2⟩ := hl t (.ref off) g
    rw [← q1]
    exact .ref (by rw [q1]; exact q2)
  | @gref p t off c v g hv =>
    obtain ⟨q1, q2⟩ := hl t (.gref c off) g
    exact .gref (by rw [q1]; exact q2) (by rw [q1]; exact hv)
  | @fn p f ds vs hln _ ih => exact .fn vs hln fun j d v hd hv => ih j d v hd hv (fun b q l hq hu => h.foreign b q l (hw _ _ hq) hq hu.1) (fun _ => h0) fun t hm => hl t (.fn hd hm)
  | agg vs hln h1 _ ih => exact .agg vs hln h1 fun j d v hd hv => ih j d v hd hv (fun b q l hq hu => ho b q l hq (Place.under_trans hu (Place.at_under _ j))) (fun e => by simp [Place.at] at e) fun t hm => hl t (.agg hd hm)
  | tup vs hln _ ih => exact .tup vs hln fun j d v hd hv => ih j d v hd hv (fun b q l hq hu => ho b q l hq (Place.under_trans hu (Place.at_under _ j))) (fun e => by simp [Place.at] at e) fun t hm => hl t (.tup hd hm)
end Go.Proofs.YtdopillligfdiaaDoor
