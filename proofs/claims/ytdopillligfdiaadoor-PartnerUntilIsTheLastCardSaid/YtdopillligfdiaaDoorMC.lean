/- Calls to which a slot hands over what it owns. -/
import Derived.Test.YtdopillligfdiaaDoorMO
namespace Go.Proofs.YtdopillligfdiaaDoor
set_option linter.unusedSimpArgs false
set_option linter.unusedVariables false
open Go.RowKit

/-- The callee's view: the slot u's own things are its argument 0, all else is foreign. -/
def Sig.hand (S : Sig) (u : Nat) : Sig := ⟨fun b => (S.own b).map fun x => (if x.1.r = u + 2 then ⟨2, x.1.path⟩ else .dead, x.2), fun t => if t = 2 then S.loc (u + 2) else 0⟩
theorem Sig.hand_lim (S : Sig) (u : Nat) : (S.hand u).lim = S.lim := by
  funext b
  simp only [Sig.lim, Sig.hand]
  cases S.own b <;> rfl
/-- Is it the slot's, or within? -/
def mine (u : Nat) : Option (Place × Nat) → Bool
  | some (q, _) => q.r == u + 2
  | none => false
/-- The caller's view behind it: what the result owns goes to p, what is left of the argument stays the slot's. -/
def Sig.took (S : Sig) (n u : Nat) (S' : Sig) (p : Place) : Sig :=
  ⟨fun b => if b < n ∧ mine u (S.own b) = false then S.own b else (S'.own b).map fun x => (if x.1.r = 1 then ⟨p.r, p.path ++ x.1.path⟩ else if x.1.r = 2 then ⟨u + 2, x.1.path⟩ else .dead, x.2), fun t => if t = u + 2 then S'.loc 2 else S.loc t⟩
theorem mine_ne {u : Nat} {x : Option (Place × Nat)} (h : mine u x = false) : ∀ q l, x = some (q, l) → q.r ≠ u + 2 := fun q l e he => by
  subst e
  simp [mine, he] at h
section
variable {S S' : Sig} {w w' : World} {u : Nat} {p : Place}
theorem hand_old (ht : Trans (S.hand u) w S' w') {b : Nat} (hb : b < w.heap.size) (hn : mine u (S.own b) = false) : w'.heap[b]? = w.heap[b]? ∧ S'.own b = (S.own b).map fun x => (.dead, x.2) := by
  cases ho : S.own b with
  | none =>
    have h0 : (S.hand u).own b = none := by simp [Sig.hand, ho]
    obtain ⟨k1, k2⟩ := ht.free b hb h0
    exact ⟨k1, k2⟩
  | some y =>
    obtain ⟨q, l⟩ := y
    have hq : q.r ≠ u + 2 := mine_ne hn q l ho
    have h0 : (S.hand u).own b = some (.dead, l) := by simp [Sig.hand, ho, hq]
    obtain ⟨k1, k2⟩ := ht.foreign b _ _ hb h0 rfl
    exact ⟨k1, k2⟩
theorem took_lim (ht : Trans (S.hand u) w S' w') : (S.took w.heap.size u S' p).lim = S'.lim := by
  funext b
  simp only [Sig.lim, Sig.took]
  split
  · rename_i h
    rw [(hand_old ht h.1 h.2).2]
    cases S.own b <;> rfl
  · cases S'.own b <;> rfl
theorem took_wf (hw : WF S w) (ht : Trans (S.hand u) w S' w') (hw' : WF S' w') : WF (S.took w.heap.size u S' p) w' := fun b x hb => by
  simp only [Sig.took] at hb
  split at hb
  · exact Nat.lt_of_lt_of_le (hw b x hb) ht.size
  · simp only [Option.map_eq_some_iff] at hb
    obtain ⟨y, hy, _⟩ := hb
    exact hw' b y hy
theorem took_trans (ht : Trans (S.hand u) w S' w') : Trans S w (S.took w.heap.size u S' p) w' := by
  refine ⟨ht.os, ht.tape, ht.output, ht.size, fun b hb hn => ?_, fun b q l hb hs hd => ?_, fun b q l hb hs => ?_, ?_⟩
  · have hno : mine u (S.own b) = false := by rw [hn]; rfl
    refine ⟨(hand_old ht hb hno).1, ?_⟩
    simp only [Sig.took]
    rw [if_pos ⟨hb, hno⟩]
    exact hn
  · have hno : mine u (S.own b) = false := by rw [hs]; simp [mine, hd]
    refine ⟨(hand_old ht hb hno).1, ?_⟩
    simp only [Sig.took]
    rw [if_pos ⟨hb, hno⟩]
    exact hs
  · by_cases hno : mine u (S.own b) = false
    · refine ⟨Keeps.of_eq (hand_old ht hb hno).1, fun x hx => ?_⟩
      simp only [Sig.took] at hx
      rw [if_pos ⟨hb, hno⟩, hs] at hx
      cases hx
      exact Nat.le_refl _
    · have hq : q.r = u + 2 := by rw [hs] at hno; simpa [mine] using hno
      have h0 : (S.hand u).own b = some (⟨2, q.path⟩, l) := by simp [Sig.hand, hs, hq]
      obtain ⟨k1, k2⟩ := ht.held b _ _ hb h0
      refine ⟨k1, fun x hx => ?_⟩
      simp only [Sig.took] at hx
      rw [if_neg (fun e => hno e.2)] at hx
      simp only [Option.map_eq_some_iff] at hx
      obtain ⟨y, hy, rfl⟩ := hx
      exact k2 y hy
  · simp only [Sig.took]
    split
    · rename_i h
      have hu : u = 0 := by omega
      subst hu
      have := ht.loc2
      simpa [Sig.hand] using this
    · rfl
theorem took_own (ht : Trans (S.hand u) w S' w') {b : Nat} {q : Place} {l : Nat} (ho : S'.own b = some (q, l)) (hq : q.r ≠ 0) : (S.took w.heap.size u S' p).own b = some (if q.r = 1 then ⟨p.r, p.path ++ q.path⟩ else if q.r = 2 then ⟨u + 2, q.path⟩ else .dead, l) := by
  have hno : ¬ (b < w.heap.size ∧ mine u (S.own b) = false) := fun ⟨hb, hn⟩ => by
    have := (hand_old ht hb hn).2
    rw [ho] at this
    cases hs : S.own b with
    | none => rw [hs] at this; cases this
    | some y => rw [hs] at this; cases this; exact hq rfl
  simp only [Sig.took]
  rw [if_neg hno, ho]
  rfl
theorem Rep.took (ht : Trans (S.hand u) w S' w') {v : Value} {d : D} : ∀ {x : List Nat}, d.calm = true → Rep S' w' ⟨1, x⟩ v d → Rep (S.took w.heap.size u S' p) w' ⟨p.r, p.path ++ x⟩ v d := by
  have hlim := took_lim (p := p) ht
  have hown : ∀ {x : List Nat} {v : Value} {d : D}, d.calm1 = true → Rep S' w' ⟨1, x⟩ v d → Rep (S.took w.heap.size u S' p) w' ⟨p.r, p.path ++ x⟩ v d := by
    intro x v d hc hr
    cases hr with
    | fz hf => exact .fz (by rw [hlim]; exact hf)
    | @own _ b cap m sz rows cur e g =>
      refine .own ⟨g.mode, g.heap, g.le, g.max, g.size, g.each, ?_, fun k r j d hk hd => ?_⟩
      · rw [took_own ht g.own (by simp)]
        simp
      · obtain ⟨y, h1, h2, h3⟩ := g.cells k r j d hk hd
        exact ⟨y, h1, h2, by rw [hlim]; exact h3⟩
    | @mp _ b clock kd es ents hown hh he hk =>
      refine .mp ?_ hh he hk
      rw [took_own ht hown (by simp)]
      simp
    | obj => cases hc
    | ref => cases hc
    | gref => cases hc
    | fn => cases hc
    | agg => cases hc
    | tup => cases hc
  have hagg : ∀ {x : List Nat} {v : Value} {cs : List D}, cs.all D.calm1 = true → Rep S' w' ⟨1, x⟩ v (.agg cs) → Rep (S.took w.heap.size u S' p) w' ⟨p.r, p.path ++ x⟩ v (.agg cs) := by
    intro x v cs hc hr
    obtain ⟨vs, rfl, h1, h2, h3⟩ := hr.agg_inv
    refine .agg vs h1 h2 fun j d v hd hv => ?_
    have := hown (List.all_eq_true.1 hc d (List.mem_of_getElem? hd)) (h3 j d v hd hv)
    simpa [Place.at, List.append_assoc] using this
  intro x hc hr
  cases d with
  | agg cs => exact hagg hc hr
  | tup ds =>
    obtain ⟨vs, rfl, h1, h3⟩ := hr.tup_inv
    refine .tup vs h1 fun j d v hd hv => ?_
    have hc1 := List.all_eq_true.1 hc d (List.mem_of_getElem? hd)
    have h4 := h3 j d v hd hv
    have : Rep (S.took w.heap.size u S' p) w' ⟨p.r, p.path ++ (x ++ [j])⟩ v d := by
      cases d with
      | agg cs => exact hagg hc1 h4
      | _ => exact hown hc1 h4
    simpa [Place.at, List.append_assoc] using this
  | any => exact .fz (.any v)
  | _ => exact hown hc hr
/-- What a call may leave of what it was handed. -/
def D.left : D → Bool
  | .obj cs => cs.all D.calm1
  | d => d.calm1
theorem Rep.took0 (ht : Trans (S.hand u) w S' w') {v : Value} {d : D} (hc : d.left = true) (hr : Rep S' w' (.slot 0) v d) : Rep (S.took w.heap.size u S' p) w' (.slot u) v d := by
  have hlim := took_lim (p := p) ht
  have hown : ∀ {x : List Nat} {v : Value} {d : D}, d.calm1 = true → Rep S' w' ⟨2, x⟩ v d → Rep (S.took w.heap.size u S' p) w' ⟨u + 2, x⟩ v d := by
    intro x v d hc hr
    cases hr with
    | fz hf => exact .fz (by rw [hlim]; exact hf)
    | @own _ b cap m sz rows cur e g =>
      refine .own ⟨g.mode, g.heap, g.le, g.max, g.size, g.each, ?_, fun k r j d hk hd => ?_⟩
      · rw [took_own ht g.own (by simp)]
        simp
      · obtain ⟨y, h1, h2, h3⟩ := g.cells k r j d hk hd
        exact ⟨y, h1, h2, by rw [hlim]; exact h3⟩
    | @mp _ b clock kd es ents hown hh he hk =>
      refine .mp ?_ hh he hk
      rw [took_own ht hown (by simp)]
      simp
    | obj => cases hc
    | ref => cases hc
    | gref => cases hc
    | fn => cases hc
    | agg => cases hc
    | tup => cases hc
  cases d with
  | obj cs =>
    cases hr with
    | fz h => cases h
    | @obj _ b _ _ cur e hb hp hl hh hs h1 ih =>
      refine .obj (b := b) ?_ rfl ?_ hh hs h1 fun i d v hd hv => hown (List.all_eq_true.1 hc d (List.mem_of_getElem? hd)) (ih i d v hd hv)
      · rw [took_own ht hb (by simp)]
        simp
      · simp only [Sig.took, if_true]
        exact hl
  | any => exact .fz (.any v)
  | _ => exact hown hc hr
/-- What is at another slot stays. -/
theorem took_other {fr : List D} (hw : WF S w) (ht : Trans (S.hand u) w S' w') {i : Nat} {e : D} {v : Value} (hi : i ≠ u) (hr : Rep S w (.slot i) v e) (hf : RefOk fr e) (hu : (∀ cs, fr[u]? ≠ some (.obj cs)) ∨ (S'.loc 2 = S.loc (u + 2) ∧ S'.own (S.loc (u + 2)) = some (⟨2, []⟩, 0))) : Rep (S.took w.heap.size u S' p) w' (.slot i) v e := by
  have old : ∀ b q l, S.own b = some (q, l) → q.r ≠ u + 2 → w'.heap[b]? = w.heap[b]? ∧ (S.took w.heap.size u S' p).own b = some (q, l) := fun b q l hs hq => by
    have hb := hw _ _ hs
    have hno : mine u (S.own b) = false := by rw [hs]; simp [mine, hq]
    refine ⟨(hand_old ht hb hno).1, ?_⟩
    simp only [Sig.took]
    rw [if_pos ⟨hb, hno⟩]
    exact hs
  have hloc : ∀ t, t ≠ u + 2 → (S.took w.heap.size u S' p).loc t = S.loc t := fun t h => by simp only [Sig.took, if_neg h]
  refine hr.trans hw (took_trans ht) (hloc 0 (by omega)) (fun b q l hs hu' => old b q l hs fun e => ?_) (fun _ => hloc _ (by simp only [Place.slot]; omega)) fun t hm ho => ?_
  · have := hu'.1
    simp only [Place.slot] at this
    omega
  · by_cases htu : t = u
    · subst htu
      obtain ⟨cs, hc⟩ := hf t hm
      rcases hu with h | ⟨h1, h2⟩
      · exact absurd hc (h cs)
      · refine ⟨by simp only [Sig.took, if_true]; exact h1, ?_⟩
        rw [took_own ht h2 (by simp)]
        simp [Place.slot]
    · exact ⟨hloc _ (by omega), (old _ _ _ ho (by simp only [Place.slot]; omega)).2⟩
end
theorem D.left_men {d : D} (h : d.left = true) {t : Nat} : ¬ Men t d := by
  intro hm
  cases hm with
  | obj hd hm => exact D.calm1_men (List.all_eq_true.1 h _ (List.mem_of_getElem? hd)) hm
  | ref => cases h
  | gref => cases h
  | fn => cases h
  | agg => cases h
  | tup => cases h
theorem Rep.handed {S : Sig} {w : World} {u : Nat} {v : Value} {d : D} (hc : d.left = true) (hr : Rep S w (.slot u) v d) : Rep (S.hand u) w (.slot 0) v d := by
  have hlim := S.hand_lim u
  have hown : ∀ {x : List Nat} {v : Value} {d : D}, d.calm1 = true → Rep S w ⟨u + 2, x⟩ v d → Rep (S.hand u) w ⟨2, x⟩ v d := by
    intro x v d hc hr
    cases hr with
    | fz hf => exact .fz (by rw [hlim]; exact hf)
    | @own _ b cap m sz rows cur e g =>
      refine .own ⟨g.mode, g.heap, g.le, g.max, g.size, g.each, by simp [Sig.hand, g.own], fun k r j d hk hd => ?_⟩
      obtain ⟨y, h1, h2, h3⟩ := g.cells k r j d hk hd
      exact ⟨y, h1, h2, by rw [hlim]; exact h3⟩
    | @mp _ b clock kd es ents hown hh he hk => exact .mp (by simp [Sig.hand, hown]) hh he hk
    | obj => cases hc
    | ref => cases hc
    | gref => cases hc
    | fn => cases hc
    | agg => cases hc
    | tup => cases hc
  cases d with
  | obj cs =>
    cases hr with
    | fz h => cases h
    | @obj _ b _ _ cur e hb hp hl hh hs h1 ih =>
      refine .obj (b := b) (by simp [Sig.hand, hb]) rfl ?_ hh hs h1 fun i d v hd hv => hown (List.all_eq_true.1 hc d (List.mem_of_getElem? hd)) (ih i d v hd hv)
      simp only [Sig.hand, if_true]
      exact hl
  | any => exact .fz (.any v)
  | _ => exact hown hc hr
/-- What a function gives that is handed the slice of a slot, and what becomes of the slice if it stays the slot's. -/
def SemO (P : Program) (f : Nat) (d0 : D) (rest : List D) (d : D) (out : Option D) : Prop :=
  Enters P f ∧ d.calm = true ∧ (∀ d', out = some d' → d'.left = true) ∧ ∀ (S : Sig) (w : World) (v0 : Value) (vs : List Value), WF S w → Rep S w (.slot 0) v0 d0 → vs.length = rest.length → (∀ (i : Nat) (d : D) (v : Value), rest[i]? = some d → vs[i]? = some v → Fz S.lim w v d) →
    Calls P f (v0 :: vs).toArray w fun e w' => ∃ v S', e = .returned v ∧ WF S' w' ∧ Trans S w S' w' ∧ Rep S' w' .res v d ∧ ∀ d', out = some d' → Rep S' w' (.slot 0) v0 d'
theorem SemO.of {P : Program} {f : Nat} {d0 d : D} {rest : List D} (h : Sem P f (d0 :: rest) d) : SemO P f d0 rest d none := by
  obtain ⟨h1, h2, h3⟩ := h
  refine ⟨h1, h2, (fun d' hd => nomatch hd), fun S w v0 vs hw hr hl hf => ?_⟩
  refine (h3 S w (v0 :: vs) hw (by simp [hl]) fun i d v hd hv => ?_).mono fun e w' ⟨v, S', he, k1, k2, k3⟩ => ⟨v, S', he, k1, k2, k3, fun d' hd => by cases hd⟩
  cases i with
  | zero => cases hd; cases hv; exact hr
  | succ i => exact .fz (hf i d v (by simpa using hd) (by simpa using hv))
section
variable {P : Program} {dst : Option Tmp} {ty : TypeId} {pos : String} {after : Array Edge} {guard : Option (Nat × Bool)}
theorem own_call0 {f : Nat} {x : Operand} {xs : List Operand} {ts : Array TypeId} {d0 : D} {ds' : List D} {d : D} {out : Option D} {ρ : Operand → D} {S : Sig} {w : World} {a : Act} {u : Nat} (hwf : WF S w) (hleft : d0.left = true) (hsl : Rep S w (.slot u) (a.eval x) d0) (hops : ∀ y ∈ xs, ∃ q, Rep S w q (a.eval y) (ρ y))
    (hargs : DLes (xs.map ρ) ds') (hp : ds'.all D.passes = true) (hsem : SemO P f d0 ds' d out) {K : Act → World → Prop} {Q : Exit → Act → World → Prop}
    (hK : ∀ v S' w', WF S' w' → Trans (S.hand u) w S' w' → Rep S' w' .res v d → (∀ d', out = some d' → Rep S' w' (.slot 0) (a.eval x) d') → K (a.put dst v) w') : (Oper.mk dst (.call ⟨.value (.func f), (x :: xs).toArray, ts⟩) ty pos after guard).wp P a w K Q := by
  obtain ⟨hen, hcalm, hcal1, hcall⟩ := hsem
  haveI := hen
  have hlim := S.hand_lim u
  have hfz : ∀ (i : Nat) (d : D) (v : Value), ds'[i]? = some d → (xs.map a.eval)[i]? = some v → Fz (S.hand u).lim w v d := fun i d v hd' hv => by
    rw [hlim]
    rw [List.getElem?_map] at hv
    cases hx : xs[i]? with
    | none => rw [hx] at hv; cases hv
    | some y =>
      rw [hx] at hv
      cases hv
      obtain ⟨q, hq⟩ := hops y (List.mem_of_getElem? hx)
      have hle := hargs.get (i := i) (d := ρ y) (by rw [List.getElem?_map, hx]; rfl) hd'
      exact (Rep.le hle hq).passes (List.all_eq_true.1 hp d (List.mem_of_getElem? hd'))
  have hwh : WF (S.hand u) w := fun b x hb => by
    simp only [Sig.hand, Option.map_eq_some_iff] at hb
    obtain ⟨y, hy, _⟩ := hb
    exact hwf b y hy
  have hrep0 := hsl.handed hleft
  refine r_call (hcall (S.hand u) w (a.eval x) (xs.map a.eval) hwh hrep0 (by rw [hargs.len]; simp) hfz) (by apply Array.ext'; simp) fun e w' ⟨v, S', he, hw', ht, hrep, hout⟩ => ?_
  subst he
  exact hK v S' w' hw' ht hrep hout
theorem hrk_unal {fr : List D} {u : Nat} {d0 : D} (hd : fr[u]? = some d0) (hn : d0.isObj = false) (d1 : D) : ∀ e, RefOk fr e → RefOk ((fr.map (unal u .any)).set u d1) e := fun e he x hx => by
  obtain ⟨cs, hc⟩ := he x hx
  have hxu : u ≠ x := fun e => by subst e; rw [hd] at hc; cases hc; cases hn
  exact ⟨cs, by rw [List.getElem?_set_ne hxu, List.getElem?_map, hc]; rfl⟩
theorem own_call {f : Nat} {x : Operand} {xs : List Operand} {ts : Array TypeId} {m sz : Nat} {rows : List (List D)} {ds' : List D} {d : D} {out : Option D} {S : Sig} {w : World} {a : Act} {fr : List D} (hF : FR S w a fr) {u : Nat} (hd : fr[u]? = some (.sl (m + 1) sz rows)) (hs : a.tmps[u]? = some (a.eval x))
    (hargs : DLes (xs.map (evalD fr)) ds') (hp : ds'.all D.passes = true) (hsem : SemO P f (.sl (m + 1) sz rows) ds' d out) {p : Place} {K : Act → World → Prop} {Q : Exit → Act → World → Prop}
    (hK : ∀ v S' w', Trans S w S' w' → FR S' w' a ((fr.map (unal u .any)).set u (out.getD .any)) → Rep S' w' p v d → K (a.put dst v) w') : (Oper.mk dst (.call ⟨.value (.func f), (x :: xs).toArray, ts⟩) ty pos after guard).wp P a w K Q := by
  obtain ⟨v0, hv0, hsl⟩ := hF.at hd
  obtain rfl : v0 = a.eval x := Option.some.inj (hv0.symm.trans hs)
  refine own_call0 hF.wf rfl hsl.1 (fun y _ => hF.eval y) hargs hp hsem fun v S' w' hw' ht hrep hout => ?_
  obtain ⟨_, hcalm, hcal1, _⟩ := hsem
  have hT' := took_trans (p := p) ht
  have hfin := Rep.took (p := p) ht (x := []) hcalm hrep
  rw [List.append_nil] at hfin
  refine hK v (S.took w.heap.size u S' p) w' hT' ?_ hfin
  have hlt : u < fr.length := (List.getElem?_eq_some_iff.1 hd).1
  have hrk := hrk_unal hd rfl (out.getD .any)
  refine ⟨took_wf hF.wf ht hw', by simp [hF.size], hF.defers, fun i e v hi hv => ?_⟩
  by_cases hiu : i = u
  · subst hiu
    rw [List.getElem?_set_self (by simpa using hlt)] at hi
    cases hi
    rw [hs] at hv
    cases hv
    cases out with
    | none => exact SlotRep.of (.fz (.any _)) fun t ht => by cases ht
    | some d' => exact SlotRep.of (Rep.took0 (p := p) ht (hcal1 d' rfl) (hout d' rfl)) fun t hm => absurd hm (D.left_men (hcal1 d' rfl))
  · rw [List.getElem?_set_ne (Ne.symm hiu), List.getElem?_map] at hi
    cases hfi : fr[i]? with
    | none => rw [hfi] at hi; cases hi
    | some e0 =>
      rw [hfi] at hi
      cases hi
      have hs := hF.slot i e0 v hfi hv
      cases e0 with
      | al y =>
        obtain ⟨h1, d', h2, h3, h4⟩ := hs
        by_cases hyu : y = u
        · simp only [unal, if_pos hyu]
          exact SlotRep.of (.fz (.any _)) fun t ht => by cases ht
        · simp only [unal, if_neg hyu]
          refine ⟨h1, d', ?_, h3, h4⟩
          rw [List.getElem?_set_ne (Ne.symm hyu), List.getElem?_map, h2]
          cases d' <;> first | rfl | cases h3
      | _ => exact ⟨took_other hF.wf ht hiu hs.1 hs.2 (.inl fun cs h => by rw [hd] at h; cases h), hrk _ hs.2⟩
/-- The object of a slot handed to a call, that turns it. -/
theorem own_callO {f : Nat} {x : Operand} {xs : List Operand} {ts : Array TypeId} {cs cs' : List D} {ds' : List D} {d : D} {S : Sig} {w : World} {a : Act} {fr : List D} (hF : FR S w a fr) {u : Nat} (hd : fr[u]? = some (.obj cs)) (hc : cs.all D.calm1 = true) (hs : a.eval x = .pointer (some ⟨S.loc (u + 2), 0, none⟩))
    (hargs : DLes (xs.map (evalD fr)) ds') (hp : ds'.all D.passes = true) (hsem : SemO P f (.obj cs) ds' d (some (.obj cs'))) {p : Place} {K : Act → World → Prop} {Q : Exit → Act → World → Prop}
    (hK : ∀ v S' w', Trans S w S' w' → FR S' w' a (fr.set u (.obj cs')) → Rep S' w' p v d → K (a.put dst v) w') : (Oper.mk dst (.call ⟨.value (.func f), (x :: xs).toArray, ts⟩) ty pos after guard).wp P a w K Q := by
  obtain ⟨v0, hv0, hsl⟩ := hF.at hd
  have hb0 : v0 = a.eval x := by
    rw [hs]
    cases hsl.1 with
    | fz h => cases h
    | obj hb hp hl hh hs h1 ih => subst hl; rfl
  subst hb0
  refine own_call0 (d0 := .obj cs) hF.wf hc hsl.1 (fun y _ => hF.eval y) hargs hp hsem fun v S' w' hw' ht hrep hout => ?_
  obtain ⟨_, hcalm, hcal1, _⟩ := hsem
  have hT' := took_trans (p := p) ht
  have hfin := Rep.took (p := p) ht (x := []) hcalm hrep
  rw [List.append_nil] at hfin
  refine hK v (S.took w.heap.size u S' p) w' hT' ?_ hfin
  have hlt : u < fr.length := (List.getElem?_eq_some_iff.1 hd).1
  have ho := hout _ rfl
  have hob : S'.loc 2 = S.loc (u + 2) ∧ S'.own (S.loc (u + 2)) = some (⟨2, []⟩, 0) := by
    clear hfin hK hout
    generalize a.eval x = v1 at ho hs
    cases ho with
    | fz h => cases h
    | obj hb hp hl hh _ h1 ih =>
      have he := congrArg (fun v : Value => match v with | .pointer (some q) => q.block | _ => 0) hs
      simp only at he
      rw [← he]
      exact ⟨hl, hb⟩
  have hrk : ∀ e, RefOk fr e → RefOk (fr.set u (.obj cs')) e := fun e he y hy => by
    obtain ⟨c, h⟩ := he y hy
    by_cases hyu : y = u
    · subst hyu; exact ⟨cs', List.getElem?_set_self hlt⟩
    · exact ⟨c, by rw [List.getElem?_set_ne (Ne.symm hyu)]; exact h⟩
  refine ⟨took_wf hF.wf ht hw', by simp [hF.size], hF.defers, fun i e v hi hv => ?_⟩
  by_cases hiu : i = u
  · subst hiu
    rw [List.getElem?_set_self hlt] at hi
    cases hi
    rw [hv0] at hv
    cases hv
    exact SlotRep.of (Rep.took0 (p := p) ht (hcal1 _ rfl) ho) fun t hm => absurd hm (D.left_men (hcal1 _ rfl))
  · rw [List.getElem?_set_ne (Ne.symm hiu)] at hi
    have hs := hF.slot i e v hi hv
    cases e with
    | al y =>
      obtain ⟨h1, d', h2, h3, h4⟩ := hs
      by_cases hyu : y = u
      · subst hyu; exact ⟨h1, .obj cs', List.getElem?_set_self hlt, rfl, h4⟩
      · exact ⟨h1, d', by rw [List.getElem?_set_ne (Ne.symm hyu)]; exact h2, h3, h4⟩
    | _ => exact ⟨took_other hF.wf ht hiu hs.1 hs.2 (.inr hob), hrk _ hs.2⟩
/-- A call that takes what a slot owns. -/
def GivesO (P : Program) (f : Nat) (d0 : D) (args : List D) (d : D) (out : Option D) : Prop := ∃ d1 ds', d0 = d1 ∧ DLes args ds' ∧ ds'.all D.passes = true ∧ SemO P f d1 ds' d out
end
end Go.Proofs.YtdopillligfdiaaDoor
