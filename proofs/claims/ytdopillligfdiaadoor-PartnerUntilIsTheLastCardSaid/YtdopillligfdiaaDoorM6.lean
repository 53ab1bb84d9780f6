/- What a call gives; every single operation as one function. -/
import Derived.Test.YtdopillligfdiaaDoorM5
namespace Go.Proofs.YtdopillligfdiaaDoor
set_option linter.unusedSimpArgs false
set_option linter.unusedVariables false
open Go.RowKit

/-- Data that is handed in and out: it leads to no object of a frame. -/
def D.calm1 : D → Bool
  | .sl _ _ _ => true
  | .mp _ _ => true
  | d => d.one
def D.calm : D → Bool
  | .agg cs => cs.all D.calm1
  | .tup ds => ds.all fun d => match d with
    | .agg cs => cs.all D.calm1
    | d => d.calm1
  | .any => true
  | d => d.calm1
def D.passes : D → Bool
  | .agg cs => cs.all D.one
  | .fn _ cs => cs.all D.one
  | .any => true
  | d => d.one
theorem D.calm1_men {d : D} (h : d.calm1 = true) {t : Nat} : ¬ Men t d := by
  intro hm
  cases hm <;> cases h
theorem D.calm_men {d : D} (h : d.calm = true) {t : Nat} : ¬ Men t d := by
  have key : ∀ (cs : List D) (j : Nat) (d : D), cs.all D.calm1 = true → cs[j]? = some d → ¬ Men t d := fun cs j d h hd => D.calm1_men (List.all_eq_true.1 h d (List.mem_of_getElem? hd))
  intro hm
  cases hm with
  | ref => cases h
  | gref => cases h
  | fn => cases h
  | obj => cases h
  | agg hd hm => exact key _ _ _ h hd hm
  | tup hd hm =>
    rename_i j cs d
    have h1 := List.all_eq_true.1 h d (List.mem_of_getElem? hd)
    cases d with
    | agg cs => cases hm with | agg hd' hm' => exact key _ _ _ h1 hd' hm'
    | _ => exact D.calm1_men h1 hm
theorem Rep.passes {S : Sig} {w : World} {q : Place} {v : Value} {d : D} (h : Rep S w q v d) (hp : d.passes = true) : Fz S.lim w v d := by
  cases d with
  | agg cs =>
    obtain ⟨vs, rfl, h1, h2, h3⟩ := h.agg_inv
    exact .agg vs h1 h2 fun j d v hd hv => D.one_fz (h3 j d v hd hv) (List.all_eq_true.1 hp d (List.mem_of_getElem? hd))
  | fn f cs =>
    cases h with
    | fz h => exact h
    | fn vs hl ih => exact .fn vs hl fun j d v hd hv => D.one_fz (ih j d v hd hv) (List.all_eq_true.1 hp d (List.mem_of_getElem? hd))
  | any => exact .any v
  | _ => exact D.one_fz h hp

/-- What the function f gives for these arguments: in whatever memory it returns the datum, and turns nothing that is not its own. -/
def Sem (P : Program) (f : Nat) (args : List D) (d : D) : Prop :=
  Enters P f ∧ d.calm = true ∧ ∀ (S : Sig) (w : World) (vs : List Value), WF S w → vs.length = args.length → (∀ (i : Nat) (d : D) (v : Value), args[i]? = some d → vs[i]? = some v → Rep S w (.slot i) v d) →
    Calls P f vs.toArray w fun e w' => ∃ v S', e = .returned v ∧ WF S' w' ∧ Trans S w S' w' ∧ Rep S' w' .res v d
inductive DLes : List D → List D → Prop
  | nil : DLes [] []
  | cons {d d' : D} {ds ds' : List D} (h : DLe d d') (hs : DLes ds ds') : DLes (d :: ds) (d' :: ds')
theorem DLes.refl : ∀ ds : List D, DLes ds ds
  | [] => .nil
  | d :: ds => .cons (.refl d) (DLes.refl ds)
theorem DLes.len : ∀ {ds ds' : List D}, DLes ds ds' → ds'.length = ds.length
  | [], [], .nil => rfl
  | _ :: _, _ :: _, .cons _ hs => by simp [hs.len]
theorem DLes.get : ∀ {ds ds' : List D}, DLes ds ds' → ∀ {i : Nat} {d d' : D}, ds[i]? = some d → ds'[i]? = some d' → DLe d d'
  | _ :: _, _ :: _, .cons h _, 0, _, _, h1, h2 => by cases h1; cases h2; exact h
  | _ :: _, _ :: _, .cons _ hs, i + 1, _, _, h1, h2 => hs.get (i := i) (by simpa using h1) (by simpa using h2)
  | [], [], .nil, i, _, _, h1, _ => by simp at h1
/-- A call with what is handed to it. -/
def Gives (P : Program) (f : Nat) (args : List D) (d : D) : Prop := ∃ ds', DLes args ds' ∧ ds'.all D.passes = true ∧ Sem P f ds' d
/-- The caller's view while a function runs: all that is owned is foreign. -/
def Sig.hide (S : Sig) : Sig := ⟨fun b => (S.own b).map fun x => (.dead, x.2), S.loc⟩
theorem Sig.hide_lim (S : Sig) : S.hide.lim = S.lim := by
  funext b
  simp only [Sig.lim, Sig.hide]
  cases S.own b <;> rfl
/-- The caller's view behind it. -/
def Sig.back (S : Sig) (n : Nat) (S' : Sig) (p : Place) : Sig :=
  ⟨fun b => if b < n then S.own b else (S'.own b).map fun x => (if x.1.r = 1 then ⟨p.r, p.path ++ x.1.path⟩ else .dead, x.2), S.loc⟩
theorem Sig.back_lim {S S' : Sig} {n : Nat} {p : Place} (h : ∀ b, b < n → S'.own b = S.hide.own b) : (S.back n S' p).lim = S'.lim := by
  funext b
  simp only [Sig.lim, Sig.back]
  by_cases hb : b < n
  · rw [if_pos hb, h b hb]
    simp only [Sig.hide]
    cases S.own b <;> rfl
  · rw [if_neg hb]
    cases S'.own b <;> rfl
theorem Rep.back {S S' : Sig} {n : Nat} {p : Place} {w : World} (h : ∀ b, b < n → S'.own b = S.hide.own b) {v : Value} {d : D} : ∀ {x : List Nat}, d.calm = true → Rep S' w ⟨1, x⟩ v d → Rep (S.back n S' p) w ⟨p.r, p.path ++ x⟩ v d := by
  have hlim := Sig.back_lim (p := p) h
  have hown : ∀ {x : List Nat} {v : Value} {d : D}, d.calm1 = true → Rep S' w ⟨1, x⟩ v d → Rep (S.back n S' p) w ⟨p.r, p.path ++ x⟩ v d := by
    intro x v d hc hr
    cases hr with
    | fz hf => exact .fz (by rw [hlim]; exact hf)
    | @own _ b cap m sz rows cur e g =>
      refine .own ⟨g.mode, g.heap, g.le, g.max, g.size, g.each, ?_, fun k r j d hk hd => ?_⟩
      · have hb : ¬ b < n := fun hb => by
          have h1 := h b hb
          rw [g.own] at h1
          simp only [Sig.hide] at h1
          cases ho : S.own b with
          | none => rw [ho] at h1; cases h1
          | some y => rw [ho] at h1; cases h1
        simp only [Sig.back, if_neg hb, g.own, Option.map_some, if_true]
      · obtain ⟨u, h1, h2, h3⟩ := g.cells k r j d hk hd
        exact ⟨u, h1, h2, by rw [hlim]; exact h3⟩
    | @mp _ b clock kd es ents hown hh he hk =>
      refine .mp ?_ hh he hk
      have hb : ¬ b < n := fun hb => by
        have h1 := h b hb
        rw [hown] at h1
        simp only [Sig.hide] at h1
        cases ho : S.own b with
        | none => rw [ho] at h1; cases h1
        | some y => rw [ho] at h1; cases h1
      simp only [Sig.back, if_neg hb, hown, Option.map_some, if_true]
    | obj => cases hc
    | ref => cases hc
    | gref => cases hc
    | fn => cases hc
    | agg => cases hc
    | tup => cases hc
  have hagg : ∀ {x : List Nat} {v : Value} {cs : List D}, cs.all D.calm1 = true → Rep S' w ⟨1, x⟩ v (.agg cs) → Rep (S.back n S' p) w ⟨p.r, p.path ++ x⟩ v (.agg cs) := by
    intro x v cs hc hr
    obtain ⟨vs, rfl, h1, h2, h3⟩ := hr.agg_inv
    refine .agg vs h1 h2 fun j d v hd hv => ?_
    have := hown (List.all_eq_true.1 hc d (List.mem_of_getElem? hd)) (h3 j d v hd hv)
    simpa [Place.at, List.append_assoc] using this
  intro x hc hr
  cases d with
  | agg cs => exact hagg hc hr
  | tup ds =>
    obtain ⟨vs, rfl, h1, h3⟩ := hr.tup_inv
    refine .tup vs h1 fun j d v hd hv => ?_
    have hc1 := List.all_eq_true.1 hc d (List.mem_of_getElem? hd)
    have h4 := h3 j d v hd hv
    have : Rep (S.back n S' p) w ⟨p.r, p.path ++ (x ++ [j])⟩ v d := by
      cases d with
      | agg cs => exact hagg hc1 h4
      | _ => exact hown hc1 h4
    simpa [Place.at, List.append_assoc] using this
  | any => exact .fz (.any v)
  | _ => exact hown hc hr
/-- What a call leaves. -/
theorem call_core {P : Program} {f : Nat} {ds' : List D} {d : D} (hsem : Sem P f ds' d) {S : Sig} {w : World} (hw : WF S w) {vs : List Value} (hlen : vs.length = ds'.length) (hfz : ∀ (i : Nat) (d : D) (v : Value), ds'[i]? = some d → vs[i]? = some v → Fz S.lim w v d) (p : Place) :
    Calls P f vs.toArray w fun e w' => ∃ v S', e = .returned v ∧ PT S w S' w' ∧ Rep S' w' p v d := by
  obtain ⟨hen, hcalm, hsem⟩ := hsem
  have hwh : WF S.hide w := fun b x hb => by
    simp only [Sig.hide, Option.map_eq_some_iff] at hb
    obtain ⟨y, hy, _⟩ := hb
    exact hw b y hy
  refine (hsem S.hide w vs hwh hlen fun i d v hd hv => .fz (by rw [S.hide_lim]; exact hfz i d v hd hv)).mono fun e w' ⟨v, S', he, hw', ht, hrep⟩ => ?_
  have hold : ∀ b, b < w.heap.size → w'.heap[b]? = w.heap[b]? ∧ S'.own b = S.hide.own b := fun b hb => by
    cases ho : S.own b with
    | none =>
      have h0 : S.hide.own b = none := by simp [Sig.hide, ho]
      obtain ⟨k1, k2⟩ := ht.free b hb h0
      exact ⟨k1, k2.trans h0.symm⟩
    | some y =>
      have h0 : S.hide.own b = some (.dead, y.2) := by simp [Sig.hide, ho]
      obtain ⟨k1, k2⟩ := ht.foreign b _ _ hb h0 rfl
      exact ⟨k1, k2.trans h0.symm⟩
  have hext : Ext w w' := ⟨ht.os, ht.tape, ht.output, ht.size, fun b hb => (hold b hb).1⟩
  have hpt : PT S w (S.back w.heap.size S' p) w' := ⟨hext, fun b hb => by simp only [Sig.back, if_pos hb], rfl, fun b x hb => by
    by_cases hlt : b < w.heap.size
    · exact Nat.lt_of_lt_of_le hlt ht.size
    · simp only [Sig.back, if_neg hlt, Option.map_eq_some_iff] at hb
      obtain ⟨y, hy, _⟩ := hb
      exact hw' b y hy⟩
  have hfin := Rep.back (p := p) (fun b hb => (hold b hb).2) (x := []) hcalm hrep
  rw [List.append_nil] at hfin
  exact ⟨v, _, he, hpt, hfin⟩
/-- The caller's view while a function runs that hands back no memory: all that is owned is foreign and stays whole. -/
def Sig.lend (S : Sig) (w : World) : Sig := ⟨fun b => (S.own b).map fun _ => (.dead, match w.heap[b]? with
  | some (.cells cur _ _) => cur.size
  | _ => 0), fun _ => 0⟩
/-- Data without memory. -/
def D.flat1 : D → Bool
  | .int _ _ | .bool _ | .str _ => true
  | _ => false
def D.flat : D → Bool
  | .agg cs => cs.all D.flat1
  | .tup ds => ds.all D.flat1
  | d => d.flat1
theorem lend_okc {S : Sig} {w : World} {b o : Nat} {v : Value} (h : w.cell? ⟨b, o, none⟩ = some v) : OkC (S.lend w).lim b o := fun s hs => by
  simp only [Sig.lim, Sig.lend] at hs
  cases ho : S.own b with
  | none => rw [ho] at hs; cases hs
  | some y =>
    rw [ho] at hs
    unfold World.cell? at h
    simp only at h
    split at h
    · rename_i cur e fz he
      rw [he] at hs
      simp only [Option.map_some, Option.some.injEq] at hs
      subst hs
      simp only [Option.isSome_none, Bool.false_eq_true, if_false] at h
      exact (Array.getElem?_eq_some_iff.1 h).1
    · cases h
theorem Fz.lend {S : Sig} {w : World} {v : Value} {d : D} (h : Fz S.lim w v d) : Fz (S.lend w).lim w v d := h.mono fun _ _ _ hc _ => lend_okc hc
theorem flat1_fz {S : Sig} {w w' : World} {lim : Nat → Option Nat} {q : Place} {v : Value} {d : D} (h : Rep S w q v d) (hf : d.flat1 = true) : Fz lim w' v d := by
  cases h with
  | fz h => cases h <;> first | exact .int _ _ | exact .bool _ | exact .str _ | cases hf
  | _ => cases hf
theorem flat_fz {S : Sig} {w w' : World} {lim : Nat → Option Nat} {q : Place} {v : Value} {d : D} (h : Rep S w q v d) (hf : d.flat = true) : Fz lim w' v d := by
  cases d with
  | agg cs =>
    obtain ⟨vs, rfl, h1, h2, h3⟩ := h.agg_inv
    exact .agg vs h1 h2 fun j d v hd hv => flat1_fz (h3 j d v hd hv) (List.all_eq_true.1 hf d (List.mem_of_getElem? hd))
  | tup ds =>
    obtain ⟨vs, rfl, h1, h3⟩ := h.tup_inv
    exact .tup vs h1 fun j d v hd hv => flat1_fz (h3 j d v hd hv) (List.all_eq_true.1 hf d (List.mem_of_getElem? hd))
  | _ => exact flat1_fz h hf
theorem call_lend {P : Program} {f : Nat} {ds' : List D} {d : D} (hsem : Sem P f ds' d) (hflat : d.flat = true) {S : Sig} {w : World} (hw : WF S w) {vs : List Value} (hlen : vs.length = ds'.length) (hfz : ∀ (i : Nat) (d : D) (v : Value), ds'[i]? = some d → vs[i]? = some v → Fz (S.lend w).lim w v d) :
    Calls P f vs.toArray w fun e w' => ∃ v, e = .returned v ∧ PT S w S w' ∧ ∀ p, Rep S w' p v d := by
  obtain ⟨hen, hcalm, hsem⟩ := hsem
  have hwh : WF (S.lend w) w := fun b x hb => by
    simp only [Sig.lend, Option.map_eq_some_iff] at hb
    obtain ⟨y, hy, _⟩ := hb
    exact hw b y hy
  refine (hsem (S.lend w) w vs hwh hlen fun i d v hd hv => .fz (hfz i d v hd hv)).mono fun e w' ⟨v, S', he, hw', ht, hrep⟩ => ?_
  have hold : ∀ b, b < w.heap.size → w'.heap[b]? = w.heap[b]? := fun b hb => by
    cases ho : S.own b with
    | none => exact (ht.free b hb (by simp [Sig.lend, ho])).1
    | some y => exact (ht.foreign b .dead _ hb (by simp only [Sig.lend, ho]; rfl) rfl).1
  exact ⟨v, he, PT.ext' hw ⟨ht.os, ht.tape, ht.output, ht.size, hold⟩, fun p => .fz (flat_fz hrep hflat)⟩
theorem Rep.fn_inv {S : Sig} {w : World} {q : Place} {v : Value} {f : Nat} {cs : List D} (h : Rep S w q v (.fn f cs)) : ∃ vs : List Value, v = .func (.func f) #[] vs.toArray ∧ vs.length = cs.length ∧ ∀ (j : Nat) (d : D) (v : Value), cs[j]? = some d → vs[j]? = some v → Rep S w .dead v d := by
  cases h with
  | fz h => cases h with | fn vs hl ih => exact ⟨vs, rfl, hl, fun j d v hd hv => .fz (ih j d v hd hv)⟩
  | fn vs hl ih => exact ⟨vs, rfl, hl, ih⟩
theorem DLes.passes {ρ : Operand → D} {S : Sig} {w : World} {a : Act} {xs : List Operand} {ds' : List D} (h1 : DLes (xs.map ρ) ds') (h2 : ds'.all D.passes = true) (hr : ∀ x ∈ xs, ∃ q, Rep S w q (a.eval x) (ρ x)) : ∀ (i : Nat) (d : D) (v : Value), ds'[i]? = some d → (xs.map a.eval)[i]? = some v → Fz S.lim w v d := fun i d v hd hv => by
  rw [List.getElem?_map] at hv
  cases hx : xs[i]? with
  | none => rw [hx] at hv; cases hv
  | some x =>
    rw [hx] at hv
    cases hv
    obtain ⟨q, hq⟩ := hr x (List.mem_of_getElem? hx)
    have hle := h1.get (i := i) (d := ρ x) (by rw [List.getElem?_map, hx]; rfl) hd
    exact (Rep.le hle hq).passes (List.all_eq_true.1 h2 d (List.mem_of_getElem? hd))
theorem DLes.split : ∀ {as bs ds : List D}, DLes (as ++ bs) ds → ∃ d1 d2, ds = d1 ++ d2 ∧ DLes as d1 ∧ DLes bs d2
  | [], bs, ds, h => ⟨[], ds, rfl, .nil, h⟩
  | a :: as, bs, _ :: ds, .cons h hs => by
    obtain ⟨d1, d2, rfl, h1, h2⟩ := DLes.split (as := as) hs
    exact ⟨_ :: d1, d2, rfl, .cons h h1, h2⟩
section
variable {P : Program} {Q : Exit → Act → World → Prop} {K : Act → World → Prop} {a : Act} {w : World} {dst : Option Tmp} {ty : TypeId} {pos : String} {after : Array Edge} {guard : Option (Nat × Bool)}
theorem r_makeFunc {f : FuncId} {xs : Array Operand} (hk : K (a.put dst (.func (.func f) #[] (xs.map a.eval))) w) : (Oper.mk dst (.makeFunc (.func f) #[] xs) ty pos after guard).wp P a w K Q := by
  have e : (execOp a.eval (Oper.mk dst (.makeFunc (.func f) #[] xs) ty pos after guard)).run P w = .ok (.value (.func (.func f) #[] (xs.map a.eval))) w := by
    simp [execOp, Instr.makeFunc]
  exact wp_run e hk
theorem r_callF {f : FuncId} [e : Enters P f] {x : Operand} {xs : Array Operand} {ts : Array TypeId} {args vs : Array Value} {R : Ending → World → Prop} (hf : a.eval x = .func (.func f) #[] vs) (hn : ∀ g, x ≠ .func g) (hc : Calls P f args w R) (hx : xs.map a.eval ++ vs = args)
    (hk : ∀ e w', R e w' → match e with | .returned v => K (a.put dst v) w' | .panicked ch => Q (.panic ch) a w' | .outgrown => LetsOut Q) : (Oper.mk dst (.call ⟨.value x, xs, ts⟩) ty pos after guard).wp P a w K Q := by
  subst hx
  have e : (execOp a.eval (Oper.mk dst (.call ⟨.value x, xs, ts⟩) ty pos after guard)).run P w = .ok (.enter f (xs.map a.eval ++ vs)) w := by
    simp [execOp, resolve, hf, Deferred.ofValue, invoke, run_callFunc]
  unfold Oper.wp
  rw [e]
  refine Calls.mono hc fun en w' hr => ?_
  have := hk en w' hr
  cases en <;> exact this
end
section
variable {P : Program} {dst : Option Tmp} {ty : TypeId} {pos : String} {after : Array Edge} {guard : Option (Nat × Bool)} {ρ : Operand → D}
theorem ok_call {f : Nat} {xs : Array Operand} {ts : Array TypeId} {d : D} (h : Gives P f (xs.toList.map ρ) d) : OpOk P (Oper.mk dst (.call ⟨.value (.func f), xs, ts⟩) ty pos after guard) ρ d := by
  obtain ⟨ds', h1, h2, hen, hcalm, hsem⟩ := h
  intro S w a p hw hr K Q hK
  have hops : ∀ x ∈ xs.toList, x ∈ (Op.call ⟨.value (.func f), xs, ts⟩).operands.toList := fun x hx => by simp [Op.operands, Call.operands]; right; simpa using hx
  have hlen : (xs.toList.map a.eval).length = ds'.length := by rw [h1.len]; simp
  have hfz : ∀ (i : Nat) (d : D) (v : Value), ds'[i]? = some d → (xs.toList.map a.eval)[i]? = some v → Fz S.lim w v d := fun i d v hd hv => by
    rw [List.getElem?_map] at hv
    cases hx : xs.toList[i]? with
    | none => rw [hx] at hv; cases hv
    | some x =>
      rw [hx] at hv
      cases hv
      obtain ⟨q, hq⟩ := hr x (hops x (List.mem_of_getElem? hx))
      have hle := h1.get (i := i) (d := ρ x) (by rw [List.getElem?_map, hx]; rfl) hd
      exact (Rep.le hle hq).passes (List.all_eq_true.1 h2 d (List.mem_of_getElem? hd))
  have hwh : WF S.hide w := fun b x hb => by
    simp only [Sig.hide, Option.map_eq_some_iff] at hb
    obtain ⟨y, hy, _⟩ := hb
    exact hw b y hy
  have hcall := hsem S.hide w (xs.toList.map a.eval) hwh hlen fun i d v hd hv => .fz (by rw [S.hide_lim]; exact hfz i d v hd hv)
  haveI := hen
  refine r_call hcall (by apply Array.ext'; simp) fun e w' ⟨v, S', he, hw', ht, hrep⟩ => ?_
  subst he
  have hold : ∀ b, b < w.heap.size → w'.heap[b]? = w.heap[b]? ∧ S'.own b = S.hide.own b := fun b hb => by
    cases ho : S.own b with
    | none =>
      have h0 : S.hide.own b = none := by simp [Sig.hide, ho]
      obtain ⟨k1, k2⟩ := ht.free b hb h0
      exact ⟨k1, k2.trans h0.symm⟩
    | some y =>
      have h0 : S.hide.own b = some (.dead, y.2) := by simp [Sig.hide, ho]
      obtain ⟨k1, k2⟩ := ht.foreign b _ _ hb h0 rfl
      exact ⟨k1, k2.trans h0.symm⟩
  have hext : Ext w w' := ⟨ht.os, ht.tape, ht.output, ht.size, fun b hb => (hold b hb).1⟩
  have hpt : PT S w (S.back w.heap.size S' p) w' := ⟨hext, fun b hb => by simp only [Sig.back, if_pos hb], rfl, fun b x hb => by
    by_cases hlt : b < w.heap.size
    · exact Nat.lt_of_lt_of_le hlt ht.size
    · simp only [Sig.back, if_neg hlt, Option.map_eq_some_iff] at hb
      obtain ⟨y, hy, _⟩ := hb
      exact hw' b y hy⟩
  have hfin := Rep.back (p := p) (fun b hb => (hold b hb).2) (x := []) hcalm hrep
  rw [List.append_nil] at hfin
  exact hK v _ w' hpt hfin fun t h => (D.calm_men hcalm h).elim
theorem ok_callF {t f : Nat} {cs : List D} {xs : Array Operand} {ts : Array TypeId} {d : D} (hf : ρ (.tmp t) = .fn f cs) (h : Gives P f (xs.toList.map ρ ++ cs) d) : OpOk P (Oper.mk dst (.call ⟨.value (.tmp t), xs, ts⟩) ty pos after guard) ρ d := by
  obtain ⟨ds', h1, h2, hsem⟩ := h
  intro S w a p hw hr K Q hK
  obtain ⟨q, hq⟩ := hr (.tmp t) (by simp [Op.operands, Call.operands])
  rw [hf] at hq
  obtain ⟨vs, hv, hvl, hvr⟩ := hq.fn_inv
  obtain ⟨d1, d2, rfl, l1, l2⟩ := h1.split
  rw [List.all_append, Bool.and_eq_true] at h2
  have hops : ∀ x ∈ xs.toList, ∃ q, Rep S w q (a.eval x) (ρ x) := fun x hx => hr x (by simp [Op.operands, Call.operands]; right; simpa using hx)
  have f1 := l1.passes h2.1 hops
  have n1 := l1.len
  have n2 := l2.len
  simp only [List.length_map] at n1
  have hcalm := hsem.2.1
  have hcall := call_core hsem hw (vs := xs.toList.map a.eval ++ vs) (by simp [n1, n2, hvl]) (fun i d v hd hv => by
    by_cases hi : i < d1.length
    · rw [List.getElem?_append_left hi] at hd
      rw [List.getElem?_append_left (by simp; rw [← Array.length_toList]; omega)] at hv
      exact f1 i d v hd hv
    · rw [List.getElem?_append_right (by omega)] at hd
      rw [List.getElem?_append_right (by simp; rw [← Array.length_toList]; omega)] at hv
      rw [show (xs.toList.map a.eval).length = d1.length by simp; rw [← Array.length_toList]; omega] at hv
      have hcl : i - d1.length < cs.length := by rw [← n2]; exact (List.getElem?_eq_some_iff.1 hd).1
      have hle := l2.get (List.getElem?_eq_getElem hcl) hd
      exact (Rep.le hle (hvr _ _ v (List.getElem?_eq_getElem hcl) hv)).passes (List.all_eq_true.1 h2.2 d (List.mem_of_getElem? hd))) p
  haveI := hsem.1
  refine r_callF hv (fun g e => by cases e) hcall (by apply Array.ext'; simp) fun e w' ⟨v, S', he, hpt, hrep⟩ => ?_
  subst he
  exact hK v _ w' hpt hrep fun t h => (D.calm_men hcalm h).elim
theorem ok_makeFunc {f : Nat} {xs : Array Operand} (h : (xs.toList.all fun x => match ρ x with | .ref _ _ => true | d => d.one) = true) : OpOk P (Oper.mk dst (.makeFunc (.func f) #[] xs) ty pos after guard) ρ (.fn f (xs.toList.map ρ)) := by
  intro S w a p hw hr K Q hK
  refine r_makeFunc ?_
  rw [show xs.map a.eval = (xs.toList.map a.eval).toArray by apply Array.ext'; simp]
  refine hK _ S w (PT.refl hw) (.fn _ (by simp) fun j d v hd hv => ?_) fun t hm => ?_
  · rw [List.getElem?_map] at hd hv
    cases hx : xs.toList[j]? with
    | none => rw [hx] at hd; cases hd
    | some x =>
      rw [hx] at hd hv
      cases hd; cases hv
      have hmem := List.mem_of_getElem? hx
      obtain ⟨q, hq⟩ := hr x (by simp [Op.operands]; simpa using hmem)
      have h1 := List.all_eq_true.1 h x hmem
      generalize ρ x = d at hq h1
      generalize a.eval x = v at hq
      cases d with
      | ref t o => cases hq with
        | fz h => cases h
        | ref h => exact .ref h
      | _ => exact .fz (D.one_fz hq h1)
  · cases hm with
    | fn hd hm =>
      rw [List.getElem?_map] at hd
      rename_i j _
      cases hx : xs.toList[j]? with
      | none => rw [hx] at hd; cases hd
      | some x =>
        rw [hx] at hd
        cases hd
        exact ⟨x, by simp [Op.operands]; simpa using List.mem_of_getElem? hx, hm⟩
end
end Go.Proofs.YtdopillligfdiaaDoor
