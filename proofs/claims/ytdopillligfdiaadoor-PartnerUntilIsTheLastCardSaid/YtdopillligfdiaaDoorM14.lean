/- Code on frames of data. -/
import Derived.Test.YtdopillligfdiaaDoorM13
import Derived.Deep.LoopGhost
namespace Go.Proofs.YtdopillligfdiaaDoor
set_option linter.unusedSimpArgs false
set_option linter.unusedVariables false
open Go.RowKit

def prepR (ops : List Oper) (heads : List Nat) (fr : List D) : List D :=
  ops.foldl (fun fr o => match o.op with
    | .move x => match o.dst with
      | some t => match heads.contains t with
        | true => fr
        | false => down1 fr x
      | none => fr
    | _ => fr) fr
def headsOf (M : Nat → Bool) (ops : List Oper) : List Nat :=
  ops.filterMap fun o => match o.op with
    | .call c => match c.callee with
      | .builtin .append => match c.args.toList with
        | .tmp h :: _ => some h
        | _ => none
      | .value (.func f) => match M (1000000 + f) with
        | true => match c.args.toList with
          | .tmp h :: _ => some h
          | _ => none
        | false => none
      | _ => none
    | _ => none
/-- Where a slot's value came from. -/
def srcOf (ops : List Oper) (t : Nat) : Nat := match ops with
  | [] => t
  | o :: r => match o.dst with
    | some d => match Nat.beq d t with
      | true => match o.op with
        | .move (.tmp s) => s
        | _ => t
      | false => srcOf r t
    | none => srcOf r t
/-- The call that takes what a slot owns. -/
def writerOf (M : Nat → Bool) (all : List Oper) (fr : List D) : List Oper → Nat → Option (Nat × Nat × D)
  | [], _ => none
  | o :: r, i => match o.op with
    | .call c => match c.callee with
      | .value (.func f) => match M (1000000 + f) with
        | true => match c.args.toList with
          | .tmp t :: _ => match fr[srcOf all t]? with
            | some (.sl (m + 1) sz rows) => some (i, srcOf all t, .sl (m + 1) sz rows)
            | some (.al u) => match fr[u]? with
              | some (.sl (m + 1) sz rows) => some (i, u, .sl (m + 1) sz rows)
              | _ => writerOf M all fr r (i + 1)
            | _ => writerOf M all fr r (i + 1)
          | _ => writerOf M all fr r (i + 1)
        | false => writerOf M all fr r (i + 1)
      | _ => writerOf M all fr r (i + 1)
    | _ => writerOf M all fr r (i + 1)
theorem writerOf_at {M : Nat → Bool} {all : List Oper} {fr : List D} {k cs : Nat} {d : D} : ∀ {r : List Oper} {i : Nat}, writerOf M all fr r i = some (k, cs, d) → fr[cs]? = some d ∧ ∃ m sz rows, d = .sl (m + 1) sz rows
  | [], i, h => by cases h
  | o :: r, i, h => by
    unfold writerOf at h
    split at h
    · split at h
      · split at h
        · split at h
          · split at h
            · cases h; exact ⟨by assumption, _, _, _, rfl⟩
            · split at h
              · cases h; exact ⟨by assumption, _, _, _, rfl⟩
              · exact writerOf_at h
            · exact writerOf_at h
          · exact writerOf_at h
        · exact writerOf_at h
      · exact writerOf_at h
    · exact writerOf_at h
def inB (ops : List Oper) (n : Nat) : Bool := ops.all fun o => match o.dst with
  | some d => decide (d < n)
  | none => true
/-- A region whose order is open: so many operations may come in any order. -/
structure DrawR (ops : List Oper) (ok : Nat → Bool) (F : Nat → Prop) : Prop where
  h : ∃ m, ok m = true ∧ F m
theorem DrawR.go {ops : List Oper} {ok : Nat → Bool} {F : Nat → Prop} (m : Nat) (h1 : ok m = true) (h2 : F m) : DrawR ops ok F := ⟨m, h1, h2⟩
/-- A test. -/
structure CondD (b : Bool) (x y : Prop) : Prop where
  t : b = true → x
  f : b = false → y
/-- The first operation that writes. -/
def effOf : List Oper → Nat → Nat
  | [], n => n
  | o :: r, n => match o.op with
    | .call c => match c.callee with
      | .builtin .append | .builtin .copy | .builtin .delete => n
      | _ => effOf r (n + 1)
    | .store _ _ _ | .mapUpdate _ _ _ _ | .alloc _ => n
    | _ => effOf r (n + 1)
/-- Where a walk halts. -/
structure Halt' (p : Prop) : Prop where
  h : p
/-- What the kernel reckons. -/
structure KerB (b : Bool) (F : Prop) : Prop where
  h1 : b = true
  h2 : F
/-- A region. -/
def vcRegion (P : Program) (T : Nat → Option TI) (Z : Nat → Option (List Value)) (M : Nat → Bool) (ops : List Oper) (draw : Bool) (fr : List D) (K : List D → Prop) : Prop :=
  match draw with
  | false => vcOps P T Z M ops ops fr K
  | true => DrawR ops (fun m => parOk ops.toArray && (tailOk ops.toArray m && (Nat.ble m ops.length && inB ops fr.length))) fun m =>
      forceL (prepR ops (headsOf M ops) fr) fun fr0 => match writerOf M ops fr0 (ops.take m) 0 with
        | none => vcQ P T Z ops ops.length fr0.length .any fr0 0 (ops.take m) fr0 fun fr' => vcOps P T Z M ops (ops.drop m) fr' K
        | some (k, cs, d) => KerB (lateOk ops.toArray k) (forceL (fr0.set cs .any) fun frX => vcQ P T Z ops k cs d frX 0 (ops.take m) frX fun fr' => forceL (fr'.map (unal cs .any)) fun fr' => vcOps P T Z M ops (ops.drop m) fr' K)
/-- From the data to the machine: a piece of code. -/
structure HT (P : Program) (c : Code) (fr : List D) (Q : Exit → List D → Prop) : Prop where
  h : ∀ (S : Sig) (w : World) (a : Act), FR S w a fr → ∀ Q' : Exit → Act → World → Prop, (∀ e fr' S' w' a', Q e fr' → Trans S w S' w' → FR S' w' a' fr' → Q' e a' w') → c.wp P Q' a w
def vc (P : Program) (T : Nat → Option TI) (Z : Nat → Option (List Value)) (M : Nat → Bool) : Code → List D → (Exit → List D → Prop) → Prop
  | .skip, fr, Q => Q .normal fr
  | .region _ ops draw, fr, Q => vcRegion P T Z M ops.toList draw fr fun fr' => Q .normal fr'
  | .seq x y, fr, Q => vc P T Z M x fr fun e fr' => match e with
    | .normal => vc P T Z M y fr' Q
    | e => Q e fr'
  | .cond c x y, fr, Q => match evalD fr c with
    | .bool b => CondD b (vc P T Z M x fr Q) (vc P T Z M y fr Q)
    | _ => False
  | .block id c, fr, Q => vc P T Z M c fr fun e fr' => match e with
    | .exit n => match Nat.beq n id with
      | true => Q .normal fr'
      | false => Q (.exit n) fr'
    | e => Q e fr'
  | .loop c, fr, Q => Halt' (HT P (.loop c) fr Q)
  | .exit id, fr, Q => Q (.exit id) fr
  | .ret, fr, Q => Q .ret fr
  | _, _, _ => False
section
variable {P : Program} {T : Nat → Option TI} {Z : Nat → Option (List Value)} {M : Nat → Bool}
theorem prepR_sound {w : World} {a : Act} (heads : List Nat) (ops : List Oper) {S : Sig} {fr : List D} (h : FR S w a fr) : ∃ S', Trans S w S' w ∧ FR S' w a (prepR ops heads fr) := by
  refine fold_sound (fun S fr o h => ?_) ops S fr h
  split
  · split
    · split
      · exact ⟨S, Trans.refl S w, h⟩
      · exact down1_sound h _
    · exact ⟨S, Trans.refl S w, h⟩
  · exact ⟨S, Trans.refl S w, h⟩
theorem prepR_len (heads : List Nat) : ∀ (ops : List Oper) (fr : List D), (prepR ops heads fr).length = fr.length := by
  have h1 : ∀ (fr : List D) (x : Operand), (down1 fr x).length = fr.length := fun fr x => by
    unfold down1
    split
    · split
      · split <;> simp
      · simp
      · rfl
    · rfl
  intro ops
  induction ops with
  | nil => intro fr; rfl
  | cons o r ih =>
    intro fr
    simp only [prepR, List.foldl_cons]
    have := ih (match o.op with
      | .move x => match o.dst with
        | some t => match heads.contains t with
          | true => fr
          | false => down1 fr x
        | none => fr
      | _ => fr)
    simp only [prepR] at this
    rw [this]
    split
    · split
      · split
        · rfl
        · exact h1 fr _
      · rfl
    · rfl
theorem reach_out {l : Array Oper} (hok : parOk l = true) {c : Nat} (hc : l.size ≤ c) : ∀ (f i : Nat), reachB l f i c = false
  | 0, _ => rfl
  | f + 1, i => by
    unfold reachB
    cases ho : l[i]? with
    | none => rfl
    | some o =>
      simp only
      rw [Array.any_eq_false']
      intro e he
      simp only [Bool.and_eq_true, Bool.or_eq_true, beq_iff_eq, not_and]
      intro hb h
      have hlt := parOk_before hok ho he hb
      have hi := (Array.getElem?_eq_some_iff.1 ho).1
      rcases h with h | h
      · omega
      · rw [reach_out hok hc f e.on] at h
        cases h
theorem late_out {l : Array Oper} (hok : parOk l = true) : lateOk l l.size = true := by
  refine List.all_eq_true.2 fun i hi => ?_
  cases ho : l[i]? with
  | none => rfl
  | some o =>
    refine Array.all_eq_true'.2 fun e he => ?_
    cases hb : Region.binds .any e with
    | false => rfl
    | true =>
      have hlt := parOk_before hok ho he hb
      have hi := (Array.getElem?_eq_some_iff.1 ho).1
      have : lateOf l l.size e.on = false := by
        unfold lateOf
        rw [reach_out hok (Nat.le_refl _)]
        simp
        omega
      rw [this]
      rfl
theorem vcRegion_sound (hT : TOk P T Z) (hm : P.follows .mixedOrders = true) {id : Nat} {l : List Oper} {draw : Bool} {fr : List D} {K : List D → Prop} (h : vcRegion P T Z M l draw fr K) {S : Sig} {w : World} {a : Act} (hF : FR S w a fr) {Q : Exit → Act → World → Prop}
    (hK : ∀ fr' S' w' a', K fr' → Trans S w S' w' → FR S' w' a' fr' → Q .normal a' w') : (Code.region id l.toArray draw).wp P Q a w := by
  cases draw with
  | false => exact wp_region_lit (vcOps_sound hT l hF h hK)
  | true =>
    obtain ⟨m, hb, hv⟩ := h.h
    rw [forceL_eq] at hv
    simp only [Bool.and_eq_true] at hb
    obtain ⟨hpar, htail, hml, hin⟩ := hb
    obtain ⟨S1, t1, hF1⟩ := prepR_sound (headsOf M l) l hF
    generalize hfr1 : prepR l (headsOf M l) fr = fr1 at hv hF1
    have hin' : (l.all fun o => match o.dst with | some d => decide (d < a.tmps.size) | none => true) = true := by
      have : a.tmps.size = fr.length := hF.size
      rw [this]
      exact hin
    have hpre : ∀ (k : Nat) (p : Oper), ([] ++ l.take m)[k]? = some p → l[k]? = some p := fun k p hk => by
      rw [List.nil_append, List.getElem?_take] at hk
      split at hk
      · exact hk
      · cases hk
    have go : ∀ {ci cs : Nat} {d0 : D} {fr0 : List D} {K0 : List D → Prop}, QC S1 l ci cs a fr1 fr0 w → (∀ m sz rows, d0 = .sl (m + 1) sz rows → fr1[cs]? = some d0) → vcQ P T Z l ci cs d0 fr0 0 (l.take m) fr0 K0 →
        (∀ fr' a' w', K0 fr' → Rw S1 cs w w' → FR (S1.drop cs) w' a' (fr'.map (unal cs .any)) → (fr0[cs]? = none → FR (S1.drop cs) w' a' fr') → ∃ fr'', FR (S1.drop cs) w' a' fr'' ∧ vcOps P T Z M l (l.drop m) fr'' K) → (Code.region id l.toArray true).wp P Q a w := by
      intro ci cs d0 fr0 K0 hC hd0 hq hend
      obtain ⟨ss, hss⟩ := vcQ_sound (Q := tailQ P l m Q) hT hC hd0 (fun fr' a' w' hk hx h1 h2 => by
        obtain ⟨fr'', hF', hk'⟩ := hend fr' a' w' hk hx h1 h2
        show wpList P l.toArray (NoPanic Q) (l.drop m) a' w'
        exact vcOps_sound hT _ hF' hk' fun fr'' S'' w'' a'' k t f => NoPanic.normal (hK fr'' S'' w'' a'' k (t1.trans ((hx.to (.inr rfl)).trans t)) f)) (l.take m) [] fr0 hpre hq
      refine wp_region_ways m (ways S1 l.toArray ci cs) hm hpar htail (Nat.le_of_ble_eq_true hml) (fun i hi hic => ?_) hin' (ss := ss) (hss [] a ⟨?_, rfl, hF1.defers, rfl, fun t d hd => .inl ⟨rfl, hd⟩, fun u d hd _ => ⟨hd, rfl⟩, rfl⟩)
      · have hi' : lateOf l.toArray ci i = true := hi
        have hic' : i ≠ ci := hic
        unfold lateOf at hi'
        simp only [hic', decide_false, Bool.false_or] at hi'
        exact hi'
      · rw [hC.hX, List.length_set]
        exact hF1.size
    split at hv
    · refine go (ci := l.length) (cs := fr1.length) ⟨hF1, by rw [List.set_eq_of_length_le (Nat.le_refl _)], (fun x h => by simp at h), hpar, ?_⟩ (fun m sz rows e => by cases e) hv fun fr' a' w' hk hx _ h2 => ⟨fr', h2 (by simp), hk⟩
      have := late_out hpar
      simpa using this
    · rename_i k cs d hwr
      obtain ⟨hlate, hv⟩ := hv
      simp only [forceL_eq] at hv
      obtain ⟨hcs, m', sz, rows, rfl⟩ := writerOf_at hwr
      exact go ⟨hF1, rfl, (fun x h => by rw [hcs] at h; cases h), hpar, hlate⟩ (fun _ _ _ _ => hcs) hv fun fr' a' w' hk hx h1 _ => ⟨_, h1, hk⟩
theorem vc_sound (hT : TOk P T Z) (hm : P.follows .mixedOrders = true) : ∀ (c : Code) {fr : List D} {Q : Exit → List D → Prop}, vc P T Z M c fr Q → HT P c fr Q := by
  intro c
  induction c with
  | skip => exact fun h => ⟨fun S w a hF Q' hQ => wp_skip (hQ _ _ S w a h (Trans.refl S w) hF)⟩
  | region id ops draw =>
    intro fr Q h
    refine ⟨fun S w a hF Q' hQ => ?_⟩
    have := vcRegion_sound (id := id) hT hm h hF (Q := Q') fun fr' S' w' a' k t f => hQ _ _ S' w' a' k t f
    simpa using this
  | seq x y ihx ihy =>
    intro fr Q h
    refine ⟨fun S w a hF Q' hQ => wp_seq ((ihx h).h S w a hF _ fun e fr' S' w' a' k t f => ?_)⟩
    cases e with
    | normal => exact (ihy k).h S' w' a' f Q' fun e'' fr'' S'' w'' a'' k2 t2 f2 => hQ e'' fr'' S'' w'' a'' k2 (t.trans t2) f2
    | _ => exact hQ _ _ S' w' a' k t f
  | cond c x y ihx ihy =>
    intro fr Q h
    refine ⟨fun S w a hF Q' hQ => ?_⟩
    simp only [vc] at h
    split at h
    · rename_i b hb
      obtain ⟨q, hq⟩ := hF.eval c
      rw [hb] at hq
      exact wp_cond_split hq.bool_inv (fun e => (ihx (h.1 e)).h S w a hF Q' hQ) (fun e => (ihy (h.2 e)).h S w a hF Q' hQ)
    · exact h.elim
  | block id c ih =>
    intro fr Q h
    refine ⟨fun S w a hF Q' hQ => wp_block ((ih h).h S w a hF _ fun e fr' S' w' a' k t f => ?_)⟩
    cases e with
    | exit n =>
      simp only at k
      simp only [Exit.inBlock]
      split at k
      · rename_i hn
        rw [if_pos (Nat.eq_of_beq_eq_true hn)]
        exact hQ _ _ S' w' a' k t f
      · rename_i hn
        rw [if_neg (fun e => by subst e; simp at hn)]
        exact hQ _ _ S' w' a' k t f
    | _ => exact hQ _ _ S' w' a' k t f
  | loop c => exact fun h => h.h
  | exit id => exact fun h => ⟨fun S w a hF Q' hQ => wp_exit (hQ _ _ S w a h (Trans.refl S w) hF)⟩
  | ret => exact fun h => ⟨fun S w a hF Q' hQ => wp_ret (hQ _ _ S w a h (Trans.refl S w) hF)⟩
  | _ => exact fun h => h.elim

/-- What may be forgotten of a frame. -/
def keepOk (fr fr' : List D) : Bool := (List.range fr'.length).all fun i => match fr'[i]? with
  | some (.al u) => match fr'[u]? with
    | some d => d.owns && !(Nat.beq u i)
    | none => false
  | some d => match fr[i]? with
    | some (.obj _) => d.isObj || fr'.all (safeB i)
    | _ => true
  | none => true
structure FLe (fr fr' : List D) : Prop where
  le : DLes fr fr'
  keep : keepOk fr fr' = true
theorem FR.le {S : Sig} {w : World} {a : Act} {fr fr' : List D} (h : FR S w a fr) (hl : FLe fr fr') : FR S w a fr' := by
  have hlen := hl.le.len
  have hk : ∀ (i : Nat) (d : D), fr'[i]? = some d → (∀ u, d = .al u → ∃ d' : D, fr'[u]? = some d' ∧ d'.owns = true ∧ u ≠ i) ∧ ∀ cs, fr[i]? = some (D.obj cs) → d.isObj = true ∨ ∀ e ∈ fr', ¬ Men i e := fun i d hd => by
    have hi : i < fr'.length := (List.getElem?_eq_some_iff.1 hd).1
    have := List.all_eq_true.1 hl.keep i (List.mem_range.2 hi)
    rw [hd] at this
    refine ⟨fun u e => ?_, fun cs hc => ?_⟩
    · subst e
      simp only at this
      split at this
      · rename_i d' hd'
        simp only [Bool.and_eq_true, Bool.not_eq_true'] at this
        exact ⟨d', hd', this.1, fun e => by subst e; simp at this⟩
      · cases this
    · cases d with
      | obj cs => exact .inl rfl
      | al u =>
        exfalso
        have h1 := hl.le.get (i := i) hc hd
        cases h1
      | _ =>
        simp only [hc, Bool.or_eq_true] at this
        rcases this with h | h
        · exact .inl h
        · exact .inr fun e he => safeB_men (List.all_eq_true.1 h e he)
  have hmen : ∀ {d d' : D}, DLe d d' → ∀ {p : Place} {v : Value}, Rep S w p v d → ∀ t, Men t d' → Men t d := by
    intro d d' hd
    induction hd with
    | refl d => exact fun _ t h => h
    | any d => exact fun _ t h => by cases h
    | nil m sz => exact fun _ t h => by cases h
    | own sz rows => exact fun _ t h => by cases h
    | gd hc _ ih =>
      intro p v hr t hm
      have hf := hr.gd_inv.1 hc
      exact (hf.men (ih (.fz (p := p) hf) t hm)).elim
    | @agg ds ds' hl' _ ih =>
      intro p v hr t hm
      obtain ⟨vs, rfl, h1, h2, h3⟩ := hr.agg_inv
      cases hm with
      | @agg j _ d0 hj hm =>
        have hjl : j < ds.length := by rw [← hl']; exact (List.getElem?_eq_some_iff.1 hj).1
        exact .agg (List.getElem?_eq_getElem hjl) (ih j _ _ (List.getElem?_eq_getElem hjl) hj (h3 j _ _ (List.getElem?_eq_getElem hjl) (List.getElem?_eq_getElem (by omega))) t hm)
    | @tup ds ds' hl' _ ih =>
      intro p v hr t hm
      obtain ⟨vs, rfl, h1, h3⟩ := hr.tup_inv
      cases hm with
      | @tup j _ d0 hj hm =>
        have hjl : j < ds.length := by rw [← hl']; exact (List.getElem?_eq_some_iff.1 hj).1
        exact .tup (List.getElem?_eq_getElem hjl) (ih j _ _ (List.getElem?_eq_getElem hjl) hj (h3 j _ _ (List.getElem?_eq_getElem hjl) (List.getElem?_eq_getElem (by omega))) t hm)
  refine ⟨h.wf, h.size.trans hlen.symm, h.defers, fun i d' v hd' hv => ?_⟩
  have hi : i < fr.length := by rw [← hlen]; exact (List.getElem?_eq_some_iff.1 hd').1
  obtain ⟨d, hd⟩ : ∃ d, fr[i]? = some d := ⟨fr[i], List.getElem?_eq_getElem hi⟩
  have hle := hl.le.get hd hd'
  have hs := h.slot i d v hd hv
  obtain ⟨k1, _⟩ := hk i d' hd'
  have rest : (∀ u, d ≠ .al u) → SlotRep S w a fr' i v d' := fun hn => by
    obtain ⟨r1, r2⟩ := hs.rep hn
    refine SlotRep.of (Rep.le hle r1) fun t ht => ?_
    obtain ⟨cs, hc⟩ := r2 t (hmen hle r1 t ht)
    have htl : t < fr'.length := by rw [hlen]; exact (List.getElem?_eq_some_iff.1 hc).1
    have := ((hk t _ (List.getElem?_eq_getElem htl)).2 cs hc).resolve_right fun hno => hno d' (List.mem_of_getElem? hd') ht
    rw [List.getElem?_eq_getElem htl]
    generalize fr'[t] = e at this
    cases e <;> first | exact ⟨_, rfl⟩ | cases this
  cases d with
  | al u =>
    cases hle with
    | refl =>
      obtain ⟨d'', g1, g2, g3⟩ := k1 u rfl
      exact ⟨hs.1, d'', g1, g2, g3⟩
    | any => exact SlotRep.of (.fz (.any _)) fun t ht => by cases ht
  | _ => exact rest (fun u e => by cases e)
/-- A loop: frames by a ghost that goes down. -/
theorem vc_loop (hT : TOk P T Z) (hm : P.follows .mixedOrders = true) {c : Code} {fr : List D} {Q : Exit → List D → Prop} {α : Type} (I : α → List D) (pre : α → Prop) (μ : α → Nat) (x0 : α) (h0 : FLe fr (I x0)) (hp0 : pre x0)
    (step : ∀ x, pre x → vc P T Z M c (I x) fun e fr' => match e with
      | .normal => Halt' (∃ y, pre y ∧ μ y < μ x ∧ FLe fr' (I y))
      | e => Q e fr') : HT P (.loop c) fr Q := by
  refine ⟨fun S w a hF Q' hQ => ?_⟩
  refine wp_loop_ghost (fun n a' w' => ∃ x S', pre x ∧ μ x = n ∧ Trans S w S' w' ∧ FR S' w' a' (I x)) (μ x0) ⟨x0, S, hp0, rfl, Trans.refl S w, hF.le h0⟩ ?_
  rintro n a1 w1 ⟨x, S1, hx, rfl, t1, f1⟩
  refine (vc_sound hT hm c (step x hx)).h S1 w1 a1 f1 _ fun e fr' S' w' a' k t f => ?_
  cases e with
  | normal =>
    obtain ⟨y, hy, hlt, hle⟩ := k.h
    exact ⟨μ y, hlt, y, S', hy, rfl, t1.trans t, f.le hle⟩
  | _ => exact hQ _ _ S' w' a' k (t1.trans t) f
end
end Go.Proofs.YtdopillligfdiaaDoor
