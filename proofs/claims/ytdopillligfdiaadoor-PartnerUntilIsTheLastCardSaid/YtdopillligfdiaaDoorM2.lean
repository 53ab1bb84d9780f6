/- What may be forgotten of data; frames of slots. -/
import Derived.Test.YtdopillligfdiaaDoorM1
namespace Go.Proofs.YtdopillligfdiaaDoor
set_option linter.unusedSimpArgs false
set_option linter.unusedVariables false
open Go.RowKit

theorem Fz.tup_inv {lim : Nat → Option Nat} {w : World} {v : Value} {ds : List D} (h : Fz lim w v (.tup ds)) : ∃ vs : List Value, v = .tuple vs.toArray ∧ vs.length = ds.length ∧ ∀ (j : Nat) (d : D) (u : Value), ds[j]? = some d → vs[j]? = some u → Fz lim w u d := by
  cases h with
  | tup vs hl ih => exact ⟨vs, rfl, hl, ih⟩
theorem Fz.agg_inv {lim : Nat → Option Nat} {w : World} {v : Value} {ds : List D} (h : Fz lim w v (.agg ds)) : ∃ vs : List Value, v = .agg vs.toArray ∧ vs.length = ds.length ∧ (∀ u : Value, u ∈ vs → u.oneCell' = true) ∧ ∀ (j : Nat) (d : D) (u : Value), ds[j]? = some d → vs[j]? = some u → Fz lim w u d := by
  cases h with
  | agg vs hl h1 ih => exact ⟨vs, rfl, hl, h1, ih⟩
theorem Rep.agg_inv {S : Sig} {w : World} {p : Place} {v : Value} {ds : List D} (h : Rep S w p v (.agg ds)) : ∃ vs : List Value, v = .agg vs.toArray ∧ vs.length = ds.length ∧ (∀ u : Value, u ∈ vs → u.oneCell' = true) ∧ ∀ (j : Nat) (d : D) (u : Value), ds[j]? = some d → vs[j]? = some u → Rep S w (p.at j) u d := by
  cases h with
  | fz hf =>
    obtain ⟨vs, h1, h2, h3, h4⟩ := hf.agg_inv
    exact ⟨vs, h1, h2, h3, fun j d u hd hu => .fz (h4 j d u hd hu)⟩
  | agg vs hl h1 ih => exact ⟨vs, rfl, hl, h1, ih⟩
theorem Rep.tup_inv {S : Sig} {w : World} {p : Place} {v : Value} {ds : List D} (h : Rep S w p v (.tup ds)) : ∃ vs : List Value, v = .tuple vs.toArray ∧ vs.length = ds.length ∧ ∀ (j : Nat) (d : D) (u : Value), ds[j]? = some d → vs[j]? = some u → Rep S w (p.at j) u d := by
  cases h with
  | fz hf =>
    obtain ⟨vs, h1, h2, h4⟩ := hf.tup_inv
    exact ⟨vs, h1, h2, fun j d u hd hu => .fz (h4 j d u hd hu)⟩
  | tup vs hl ih => exact ⟨vs, rfl, hl, ih⟩
theorem Rep.int_inv {S : Sig} {w : World} {p : Place} {v : Value} {k : IntKind} {n : Int} (h : Rep S w p v (.int k n)) : v = .int k n := by
  cases h with | fz h => cases h; rfl
theorem Rep.bool_inv {S : Sig} {w : World} {p : Place} {v : Value} {b : Bool} (h : Rep S w p v (.bool b)) : v = .bool b := by
  cases h with | fz h => cases h; rfl
theorem Rep.str_inv {S : Sig} {w : World} {p : Place} {v : Value} {s : List UInt8} (h : Rep S w p v (.str s)) : v = .string ⟨s.toArray⟩ := by
  cases h with | fz h => cases h; rfl
theorem Rep.pv_inv {S : Sig} {w : World} {p : Place} {v u : Value} (h : Rep S w p v (.pv u)) : v = u := by
  cases h with | fz h => cases h; rfl
theorem Rep.nil_inv {S : Sig} {w : World} {p : Place} {v : Value} (h : Rep S w p v .nil) : v = .slice none 0 0 := by
  cases h with | fz h => cases h; rfl
theorem Rep.gd_inv {S : Sig} {w : World} {p : Place} {v : Value} {c : Bool} {d : D} (h : Rep S w p v (.gd c d)) : (c = true → Fz S.lim w v d) ∧ (c = false → v = undef) := by
  cases h with | fz h => cases h with | gd h1 h0 => exact ⟨h1, h0⟩

/-- The cells of a slice that is read: nil, frozen, or one's own whose elements stay. -/
theorem OwnAt.fz {S : Sig} {w : World} {p : Place} {b cap sz : Nat} {rows : List (List D)} {cur : Array Value} {e : TypeId} (h : OwnAt S w p b cap 1 sz rows cur e) : Fz S.lim w (.slice (some ⟨b, 0, none⟩) rows.length cap) (.sl 0 sz rows) := by
  have hex : ∀ k j, ∃ v : Value, ∀ r d, rows[k]? = some r → r[j]? = some d → cur[k * sz + j]? = some v ∧ v.oneCell' = true ∧ Fz S.lim w v d := fun k j => by
    cases hr : rows[k]? with
    | none => exact ⟨undef, fun r d h1 => by cases h1⟩
    | some r =>
      cases hd : r[j]? with
      | none => exact ⟨undef, fun r' d h1 h2 => by cases h1; rw [hd] at h2; cases h2⟩
      | some d =>
        obtain ⟨v, hv⟩ := h.cells k r j d hr hd
        exact ⟨v, fun r' d' h1 h2 => by cases h1; rw [hd] at h2; cases h2; exact hv⟩
  let cv : Nat → Nat → Value := fun k j => Classical.choose (hex k j)
  have hcv : ∀ k j r d, rows[k]? = some r → r[j]? = some d → cur[k * sz + j]? = some (cv k j) ∧ (cv k j).oneCell' = true ∧ Fz S.lim w (cv k j) d := fun k j => Classical.choose_spec (hex k j)
  refine .sl cv h.le h.max (fun k r hr => h.each r (List.mem_of_getElem? hr)) (fun k r j d hr hd => ?_) (fun k r j d hr hd => (hcv k j r d hr hd).2.2)
  obtain ⟨h1, h2, _⟩ := hcv k j r d hr hd
  refine ⟨by rw [cell_of_row w b _ cur e (0, 0) h.heap, Nat.zero_add]; exact h1, fun s hs => ?_, h2⟩
  have ho := h.own
  simp only [show ¬ ((1 : Nat) = 2) by decide, if_false] at ho
  simp only [Sig.lim, ho, Option.map_some, Option.some.injEq] at hs
  have hk : k < rows.length := (List.getElem?_eq_some_iff.1 hr).1
  have hj : j < sz := by rw [← h.each r (List.mem_of_getElem? hr)]; exact (List.getElem?_eq_some_iff.1 hd).1
  have : (k + 1) * sz ≤ rows.length * sz := Nat.mul_le_mul_right _ hk
  rw [Nat.add_mul] at this
  omega

/-- What may be forgotten. -/
inductive DLe : D → D → Prop
  | refl (d : D) : DLe d d
  | any (d : D) : DLe d .any
  | nil (m sz : Nat) : DLe .nil (.sl m sz [])
  | own (sz : Nat) (rows : List (List D)) : DLe (.sl 1 sz rows) (.sl 0 sz rows)
  | gd {c : Bool} {d d' : D} (hc : c = true) (h : DLe d d') : DLe (.gd c d) d'
  | agg {ds ds' : List D} (hl : ds'.length = ds.length) (h : ∀ (j : Nat) (d d' : D), ds[j]? = some d → ds'[j]? = some d' → DLe d d') : DLe (.agg ds) (.agg ds')
  | tup {ds ds' : List D} (hl : ds'.length = ds.length) (h : ∀ (j : Nat) (d d' : D), ds[j]? = some d → ds'[j]? = some d' → DLe d d') : DLe (.tup ds) (.tup ds')
theorem Rep.le {S : Sig} {w : World} {d d' : D} (hd : DLe d d') : ∀ {p : Place} {v : Value}, Rep S w p v d → Rep S w p v d' := by
  induction hd with
  | refl d => exact fun h => h
  | any d => exact fun _ => .fz (.any _)
  | nil m sz => intro p v h; rw [h.nil_inv]; exact .fz (.slNil m sz)
  | own sz rows =>
    intro p v h
    cases h with
    | fz h =>
      cases h with
      | slNil => exact .fz (.slNil 0 sz)
    | own g => exact .fz g.fz
  | gd hc _ ih => intro p v h; exact ih (.fz (h.gd_inv.1 hc))
  | @agg ds ds' hl _ ih =>
    intro p v h
    obtain ⟨vs, rfl, h2, h3, h4⟩ := h.agg_inv
    refine .agg vs (h2.trans hl.symm) h3 fun j d' u hd' hu => ?_
    have hj : j < ds.length := by rw [← hl]; exact (List.getElem?_eq_some_iff.1 hd').1
    exact ih j ds[j] d' (List.getElem?_eq_getElem hj) hd' (h4 j _ u (List.getElem?_eq_getElem hj) hu)
  | @tup ds ds' hl _ ih =>
    intro p v h
    obtain ⟨vs, rfl, h2, h4⟩ := h.tup_inv
    refine .tup vs (h2.trans hl.symm) fun j d' u hd' hu => ?_
    have hj : j < ds.length := by rw [← hl]; exact (List.getElem?_eq_some_iff.1 hd').1
    exact ih j ds[j] d' (List.getElem?_eq_getElem hj) hd' (h4 j _ u (List.getElem?_eq_getElem hj) hu)

/-- Data of one cell that owns nothing. -/
def D.one : D → Bool
  | .int _ _ | .bool _ | .str _ | .nil | .sl 0 _ _ | .ptr _ => true
  | .pv v => v.oneCell'
  | _ => false
/-- Its cells, if it owns nothing. -/
def D.cellsOf : D → Option (List D)
  | .agg cs => if cs.all D.one then some cs else none
  | d => if d.one then some [d] else none
def D.plain : D → Bool
  | .agg cs => cs.all D.one
  | .tup ds => ds.all fun d => match d with
    | .agg cs => cs.all D.one
    | d => d.one
  | .any | .gd _ _ | .ref _ _ | .gref _ _ _ => true
  | .fn _ caps => caps.all fun d => match d with
    | .ref _ _ => true
    | d => d.one
  | d => d.one
/-- Does a slot own something? -/
def D.owns : D → Bool
  | .sl (_ + 1) _ _ => true
  | .mp _ _ => true
  | .obj _ => true
  | .agg cs => !(D.agg cs).plain
  | .tup ds => !(D.tup ds).plain
  | _ => false
/-- What leads to an object leads to one that is there. -/
def RefOk (fr : List D) (d : D) : Prop := ∀ t, Men t d → ∃ cs, fr[t]? = some (.obj cs)
/-- What a slot is. -/
def SlotRep (S : Sig) (w : World) (a : Act) (fr : List D) (i : Nat) (v : Value) : D → Prop
  | .al u => a.tmps[u]? = some v ∧ ∃ d', fr[u]? = some d' ∧ d'.owns = true ∧ u ≠ i
  | d => Rep S w (.slot i) v d ∧ RefOk fr d
structure FR (S : Sig) (w : World) (a : Act) (fr : List D) : Prop where
  wf : WF S w
  size : a.tmps.size = fr.length
  defers : a.defers = []
  slot : ∀ (i : Nat) (d : D) (v : Value), fr[i]? = some d → a.tmps[i]? = some v → SlotRep S w a fr i v d
theorem SlotRep.of {S : Sig} {w : World} {a : Act} {fr : List D} {i : Nat} {v : Value} {d : D} (h : Rep S w (.slot i) v d) (hf : RefOk fr d) : SlotRep S w a fr i v d := by
  cases d with
  | al u => cases h with | fz h => cases h
  | _ => exact ⟨h, hf⟩
theorem SlotRep.rep {S : Sig} {w : World} {a : Act} {fr : List D} {i : Nat} {v : Value} {d : D} (h : SlotRep S w a fr i v d) (hn : ∀ u, d ≠ .al u) : Rep S w (.slot i) v d ∧ RefOk fr d := by
  cases d with
  | al u => exact absurd rfl (hn u)
  | _ => exact h
theorem FR.at {S : Sig} {w : World} {a : Act} {fr : List D} (h : FR S w a fr) {i : Nat} {d : D} (hd : fr[i]? = some d) : ∃ v, a.tmps[i]? = some v ∧ SlotRep S w a fr i v d := by
  have hi : i < a.tmps.size := by rw [h.size]; exact (List.getElem?_eq_some_iff.1 hd).1
  exact ⟨a.tmps[i], by simp [hi], h.slot i d _ hd (by simp [hi])⟩
/-- A constant. -/
def ofVal : Value → D
  | .int k n => .int k n
  | .bool b => .bool b
  | .string s => .str s.data.toList
  | .slice none 0 0 => .nil
  | .agg cs => .agg (cs.toList.map fun v => match v with
    | .int k n => .int k n
    | .bool b => .bool b
    | .string s => .str s.data.toList
    | .slice none 0 0 => .nil
    | v => .pv v)
  | v => .pv v
def evalD (fr : List D) : Operand → D
  | .tmp t => match fr[t]? with
    | some (.al u) => (fr[u]?).getD .any
    | some d => d
    | none => .any
  | .const (.agg _) => .any
  | .const v => ofVal v
  | .global _ => .any
  | .func f => .fn f []
theorem ofVal_rep {lim : Nat → Option Nat} {w : World} (v : Value) (hv : ∀ cs, v ≠ .agg cs) : Fz lim w v (ofVal v) := by
  cases v with
  | int k n => exact .int k n
  | bool b => exact .bool b
  | string s => exact .str s.data.toList
  | slice a l c =>
    cases a with
    | some x => exact .pv _
    | none => cases l with
      | succ n => exact .pv _
      | zero => cases c with
        | zero => exact .nil
        | succ n => exact .pv _
  | agg cs => exact absurd rfl (hv cs)
  | _ => exact .pv _
/-- What an operand is. -/
theorem FR.eval {S : Sig} {w : World} {a : Act} {fr : List D} (h : FR S w a fr) (x : Operand) : ∃ q, Rep S w q (a.eval x) (evalD fr x) := by
  cases x with
  | tmp t =>
    unfold evalD Act.eval
    simp only
    cases hd : fr[t]? with
    | none => exact ⟨.dead, .fz (.any _)⟩
    | some d =>
      obtain ⟨v, hv, hr⟩ := h.at hd
      have he : a.tmps.getD t undef = v := by simp [Array.getD_eq_getD_getElem?, hv]
      rw [he]
      cases d with
      | al u =>
        obtain ⟨h1, d', h2, h3, _⟩ := hr
        simp only [h2, Option.getD_some]
        exact ⟨.slot u, ((h.slot u d' v h2 h1).rep (fun u' hu => by subst hu; simp [D.owns] at h3)).1⟩
      | _ => exact ⟨.slot t, hr.1⟩
  | const v =>
    unfold evalD Act.eval
    cases v with
    | agg cs => exact ⟨.dead, .fz (.any _)⟩
    | _ => exact ⟨.dead, .fz (ofVal_rep _ (by intro cs hc; cases hc))⟩
  | global g => exact ⟨.dead, .fz (.any _)⟩
  | func f => exact ⟨.dead, .fz (.fn [] rfl (fun j d v hd => by simp at hd))⟩

/-- A step that only adds. -/
structure PT (S : Sig) (w : World) (S' : Sig) (w' : World) : Prop where
  ext : Ext w w'
  own : ∀ b, b < w.heap.size → S'.own b = S.own b
  loc : S'.loc = S.loc
  wf : WF S' w'
theorem Ext.block {w w' : World} (h : Ext w w') {b : Nat} (hb : b < w.heap.size) : w'.heap[b]? = w.heap[b]? := Below.block h b hb
theorem PT.trans {S S' : Sig} {w w' : World} (h : PT S w S' w') : Trans S w S' w' := by
  refine ⟨h.ext.os, h.ext.tape, h.ext.output, h.ext.sizeOf, fun b hb hn => ⟨h.ext.block hb, by rw [h.own b hb, hn]⟩, fun b p l hb hs _ => ⟨h.ext.block hb, by rw [h.own b hb, hs]⟩, fun b p l hb hs => ⟨Keeps.of_eq (h.ext.block hb), fun x hx => ?_⟩, by rw [h.loc]⟩
  rw [h.own b hb, hs] at hx
  cases hx
  exact Nat.le_refl _
theorem PT.rep {S S' : Sig} {w w' : World} (h : PT S w S' w') (hw : WF S w) {p : Place} {v : Value} {d : D} (hr : Rep S w p v d) : Rep S' w' p v d := by
  refine hr.trans hw h.trans (by rw [h.loc]) (fun b q l hs _ => ⟨h.ext.block (hw _ _ hs), by rw [h.own b (hw _ _ hs), hs]⟩) (fun _ => by rw [h.loc]) fun t _ ht => ?_
  rw [h.loc]
  exact ⟨rfl, by rw [h.own _ (hw _ _ ht), ht]⟩
theorem PT.refl {S : Sig} {w : World} (hw : WF S w) : PT S w S w := ⟨Ext.refl w, fun _ _ => rfl, rfl, hw⟩
theorem PT.comp {S1 S2 S3 : Sig} {a b c : World} (h : PT S1 a S2 b) (k : PT S2 b S3 c) : PT S1 a S3 c :=
  ⟨h.ext.trans k.ext, fun i hi => (k.own i (Nat.lt_of_lt_of_le hi h.ext.sizeOf)).trans (h.own i hi), k.loc.trans h.loc, k.wf⟩
/-- Only memory was added, and nothing is owned anew. -/
theorem PT.ext' {S : Sig} {w w' : World} (hw : WF S w) (h : Ext w w') : PT S w S w' := ⟨h, fun _ _ => rfl, rfl, fun b x hx => Nat.lt_of_lt_of_le (hw b x hx) h.sizeOf⟩
theorem put_tmps_eq {a : Act} {t : Nat} {v : Value} (ht : t < a.tmps.size) : (a.put (some t) v).tmps[t]? = some v := by simp [Act.put, Array.getElem?_setIfInBounds, ht]
theorem put_tmps_ne {a : Act} {t i : Nat} {v : Value} (h : i ≠ t) : (a.put (some t) v).tmps[i]? = a.tmps[i]? := by simp [Act.put, Array.getElem?_setIfInBounds_ne (Ne.symm h)]
/-- A slot that owned nothing takes what a step that only adds has made. -/
theorem FR.put {S S' : Sig} {w w' : World} {a : Act} {fr : List D} (h : FR S w a fr) (hp : PT S w S' w') {t : Nat} {v : Value} {d d0 : D} (h0 : fr[t]? = some d0) (hn : d0.owns = false) (hr : Rep S' w' (.slot t) v d) (hf : RefOk fr d) : FR S' w' (a.put (some t) v) (fr.set t d) := by
  have hlt : t < fr.length := (List.getElem?_eq_some_iff.1 h0).1
  have hrk : ∀ e, RefOk fr e → RefOk (fr.set t d) e := fun e he x hx => by
    obtain ⟨cs, hc⟩ := he x hx
    have hxt : t ≠ x := fun e => by subst e; rw [h0] at hc; cases hc; cases hn
    exact ⟨cs, by rw [List.getElem?_set_ne hxt]; exact hc⟩
  refine ⟨hp.wf, by simp [Act.put, h.size], by simp [Act.put, h.defers], fun i e u hi hu => ?_⟩
  by_cases hit : i = t
  · subst hit
    rw [List.getElem?_set_self hlt] at hi
    rw [put_tmps_eq (by rw [h.size]; exact hlt)] at hu
    cases hi; cases hu
    exact SlotRep.of hr (hrk _ hf)
  · rw [List.getElem?_set_ne (Ne.symm hit)] at hi
    rw [put_tmps_ne hit] at hu
    have := h.slot i e u hi hu
    cases e with
    | al x =>
      obtain ⟨h1, d', h2, h3, h4⟩ := this
      have hxt : x ≠ t := fun e => by subst e; rw [h0] at h2; cases h2; rw [hn] at h3; cases h3
      exact ⟨by rw [put_tmps_ne hxt]; exact h1, d', by rw [List.getElem?_set_ne (Ne.symm hxt)]; exact h2, h3, h4⟩
    | _ => exact ⟨hp.rep h.wf this.1, hrk _ this.2⟩
/-- A value that goes nowhere. -/
theorem FR.drop {S S' : Sig} {w w' : World} {a : Act} {fr : List D} (h : FR S w a fr) (hp : PT S w S' w') : FR S' w' a fr :=
  ⟨hp.wf, h.size, h.defers, fun i e u hi hu => by
    have := h.slot i e u hi hu
    cases e with
    | al x => exact this
    | _ => exact ⟨hp.rep h.wf this.1, this.2⟩⟩
end Go.Proofs.YtdopillligfdiaaDoor
