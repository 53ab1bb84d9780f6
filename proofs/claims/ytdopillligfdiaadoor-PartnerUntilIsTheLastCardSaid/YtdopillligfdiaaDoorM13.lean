/- Regions whose order Go leaves open: the proof. -/
import Derived.Test.YtdopillligfdiaaDoorM12
namespace Go.Proofs.YtdopillligfdiaaDoor
set_option linter.unusedSimpArgs false
set_option linter.unusedVariables false
open Go.RowKit

def Fact (S : Sig) (a0 : Act) (d : D) (v : Value) (w : World) : Prop := WF S w ∧ match d with
  | .al u => v = a0.eval (.tmp u)
  | .ref u off => v = .pointer (some ⟨S.loc (u + 2), off, none⟩)
  | d => Fz S.lim w v d
theorem Fact.mono {S : Sig} {a0 : Act} {d : D} {v : Value} {w w' : World} (hx : Ext w w') (h : Fact S a0 d v w) : Fact S a0 d v w' := by
  have hp := PT.ext' h.1 hx
  refine ⟨hp.wf, ?_⟩
  have h2 := h.2
  cases d with
  | al u => exact h2
  | ref u off => exact h2
  | _ => exact h2.trans hp.trans
def factSpec (S : Sig) (a0 : Act) (d : D) : Spec := ⟨fun u => u.2.2, fun u w => Fact S a0 d u.2.2 w, fun _ _ _ hx h => h.mono hx⟩
/-- Memory but for what the slot owns. -/
structure Rw (S : Sig) (u : Nat) (w w' : World) : Prop where
  os : w'.os = w.os
  tape : w'.tape = w.tape
  output : w'.output = w.output
  size : w.heap.size ≤ w'.heap.size
  same : ∀ b, b < w.heap.size → mine u (S.own b) = false → w'.heap[b]? = w.heap[b]?
  held : ∀ b p l, S.own b = some (p, l) → p.r = u + 2 → Keeps l w.heap[b]? w'.heap[b]?
theorem Rw.ext {S : Sig} {u : Nat} {w w' : World} (h : Ext w w') : Rw S u w w' := by
  refine ⟨h.os, h.tape, h.output, h.sizeOf, fun b hb _ => h.block hb, fun b p l _ _ => ?_⟩
  by_cases hb : b < w.heap.size
  · exact Keeps.of_eq (h.block hb)
  · intro cur e fz hh
    rw [Array.getElem?_eq_none (by omega)] at hh
    cases hh
theorem Rw.comp {S : Sig} {u : Nat} {a b c : World} (h : Rw S u a b) (k : Rw S u b c) : Rw S u a c :=
  ⟨k.os.trans h.os, k.tape.trans h.tape, k.output.trans h.output, Nat.le_trans h.size k.size, fun i hi hn => (k.same i (Nat.lt_of_lt_of_le hi h.size) hn).trans (h.same i hi hn), fun i p l hl hr => (h.held i p l hl hr).trans (k.held i p l hl hr) (Nat.le_refl _)⟩
theorem Rw.wf {S : Sig} {u : Nat} {w w' : World} (h : Rw S u w w') (hw : WF S w) : WF S w' := fun b x hx => Nat.lt_of_lt_of_le (hw b x hx) h.size
theorem Rw.to {S : Sig} {u : Nat} {w w' : World} (h : Rw S u w w') {S' : Sig} (hS : S' = S ∨ S' = S.drop u) : Trans S w S' w' := by
  refine ⟨h.os, h.tape, h.output, h.size, fun b hb hn => ?_, fun b p l hb hs hd => ?_, fun b p l hb hs => ?_, by rcases hS with rfl | rfl <;> rfl⟩
  · have hno : mine u (S.own b) = false := by rw [hn]; rfl
    refine ⟨h.same b hb hno, ?_⟩
    rcases hS with rfl | rfl
    · exact hn
    · rw [drop_own hno, hn]
  · have hno : mine u (S.own b) = false := by rw [hs]; simp [mine, hd]
    refine ⟨h.same b hb hno, ?_⟩
    rcases hS with rfl | rfl
    · exact hs
    · rw [drop_own hno, hs]
  · refine ⟨?_, fun x hx => ?_⟩
    · by_cases hno : mine u (S.own b) = false
      · exact Keeps.of_eq (h.same b hb hno)
      · have hq : p.r = u + 2 := by rw [hs] at hno; simpa [mine] using hno
        exact h.held b p l hs hq
    · have : S.own b = some x := by
        rcases hS with rfl | rfl
        · exact hx
        · exact (drop_some hx).1
      rw [hs] at this
      cases this
      exact Nat.le_refl _
/-- What lies at another slot stays. -/
theorem Rw.rep {S : Sig} {u : Nat} {w w' : World} (h : Rw S u w w') (hw : WF S w) {S' : Sig} (hS : S' = S ∨ S' = S.drop u) {fr : List D} (hno : ∀ cs, fr[u]? ≠ some (.obj cs)) {i : Nat} (hi : i ≠ u) {v : Value} {e : D} (hr : Rep S w (.slot i) v e) (hf : RefOk fr e) : Rep S' w' (.slot i) v e := by
  have old : ∀ b q l, S.own b = some (q, l) → q.r ≠ u + 2 → w'.heap[b]? = w.heap[b]? ∧ S'.own b = some (q, l) := fun b q l hs hq => by
    have hno : mine u (S.own b) = false := by rw [hs]; simp [mine, hq]
    refine ⟨h.same b (hw _ _ hs) hno, ?_⟩
    rcases hS with rfl | rfl
    · exact hs
    · rw [drop_own hno, hs]
  have hloc : S'.loc = S.loc := by rcases hS with rfl | rfl <;> rfl
  refine hr.trans hw (h.to hS) (by rw [hloc]) (fun b q l hs hu => old b q l hs fun e => ?_) (fun _ => by rw [hloc]) fun t hm ho => ⟨by rw [hloc], (old _ _ _ ho fun e => ?_).2⟩
  · have := hu.1
    simp only [Place.slot] at this
    omega
  · obtain ⟨cs, hc⟩ := hf t hm
    simp only [Place.slot] at e
    have : t = u := by omega
    subst this
    exact hno cs hc
/-- Who comes behind the writer. -/
def lateOf (l : Array Oper) (c : Nat) (i : Nat) : Bool := decide (i = c) || reachB l l.size i c
def lateOk (l : Array Oper) (c : Nat) : Bool := (List.range l.size).all fun i => match l[i]? with
  | some o => o.after.all fun e => !Region.binds .any e || !lateOf l c e.on || (lateOf l c i && !decide (i = c))
  | none => true
def ways (S : Sig) (l : Array Oper) (c u : Nat) : Ways := ⟨Rw S u, c, lateOf l c, fun _ _ h => Rw.ext h, fun _ _ _ h k => h.comp k⟩
def sg (S : Sig) (l : Array Oper) (c u i : Nat) : Sig := if lateOf l c i = true then S.drop u else S
theorem late_dep {l : Array Oper} {c i : Nat} {o : Oper} (h : lateOk l c = true) (ho : l[i]? = some o) {e : Edge} (he : e ∈ o.after.toList) (hb : Region.binds .any e = true) (hl : lateOf l c e.on = true) : lateOf l c i = true ∧ i ≠ c := by
  have h1 := List.all_eq_true.1 h i (by simpa using (Array.getElem?_eq_some_iff.1 ho).1)
  simp only [ho] at h1
  have h2 := Array.all_eq_true'.1 h1 e (by simpa using he)
  simpa [hb, hl] using h2
/-- Who may be named. -/
def AlOk (fr0 : List D) (cs u : Nat) : Prop := (u = cs ∧ ∃ e, fr0[u]? = some e) ∨ ∃ d', fr0[u]? = some d' ∧ d'.owns = true
def NmOk (fr0 : List D) (cs : Nat) : D → Prop
  | .al u => AlOk fr0 cs u
  | .ref u _ => ∃ c, fr0[u]? = some (.obj c)
  | _ => True
structure QInv (S : Sig) (l : Array Oper) (c cs : Nat) (a0 : Act) (fr0 : List D) (pre : List Oper) (fs : List (World → Prop)) (a : Act) (fr : List D) : Prop where
  size : a.tmps.size = fr.length
  len : fr.length = fr0.length
  defers : a.defers = []
  fslen : fs.length = pre.length
  slot : ∀ (t : Nat) (d : D), fr[t]? = some d → (a.tmps[t]? = a0.tmps[t]? ∧ fr0[t]? = some d) ∨
    ∃ (k : Nat) (o : Oper) (v : Value), pre[k]? = some o ∧ o.dst = some t ∧ a.tmps[t]? = some v ∧ fs[k]? = some (Fact (sg S l c cs k) a0 d v) ∧ NmOk fr0 cs d
  own : ∀ (u : Nat) (d : D), fr0[u]? = some d → d.owns = true → fr[u]? = some d ∧ a.tmps[u]? = a0.tmps[u]?
  keep : a.tmps[cs]? = a0.tmps[cs]?
/-- What is given of a region. -/
structure QC (S : Sig) (l : List Oper) (c cs : Nat) (a0 : Act) (frF fr0 : List D) (w0 : World) : Prop where
  hF : FR S w0 a0 frF
  hX : fr0 = frF.set cs .any
  hno : ∀ x, frF[cs]? ≠ some (.obj x)
  hok : parOk l.toArray = true
  hlate : lateOk l.toArray c = true
theorem QC.other {S : Sig} {l : List Oper} {c cs : Nat} {a0 : Act} {frF fr0 : List D} {w0 : World} (h : QC S l c cs a0 frF fr0 w0) {i : Nat} (hi : i ≠ cs) : fr0[i]? = frF[i]? := by rw [h.hX, List.getElem?_set_ne (Ne.symm hi)]
theorem QC.at_cs {S : Sig} {l : List Oper} {c cs : Nat} {a0 : Act} {frF fr0 : List D} {w0 : World} (h : QC S l c cs a0 frF fr0 w0) {d : D} (hd : fr0[cs]? = some d) : d = .any := by
  rw [h.hX] at hd
  have hlt := (List.getElem?_eq_some_iff.1 hd).1
  rw [List.getElem?_set_self (by simpa using hlt)] at hd
  cases hd
  rfl
/-- What is at a slot from the beginning, behind whatever came. -/
theorem QC.hold {S : Sig} {l : List Oper} {c cs : Nat} {a0 : Act} {frF fr0 : List D} {w0 w : World} (h : QC S l c cs a0 frF fr0 w0) (hR : Rw S cs w0 w) {S' : Sig} (hS : S' = S ∨ S' = S.drop cs) {i : Nat} {d : D} {v : Value} (hd : fr0[i]? = some d) (hv : a0.tmps[i]? = some v) (hn : ∀ x, d ≠ .al x) : Rep S' w (.slot i) v d := by
  by_cases hi : i = cs
  · subst hi
    obtain rfl := h.at_cs hd
    exact .fz (.any _)
  · rw [h.other hi] at hd
    obtain ⟨h1, h2⟩ := (h.hF.slot i d v hd hv).rep hn
    exact hR.rep h.hF.wf hS h.hno hi h1 h2
theorem QC.wf {S : Sig} {l : List Oper} {c cs : Nat} {a0 : Act} {frF fr0 : List D} {w0 w : World} (h : QC S l c cs a0 frF fr0 w0) (hR : Rw S cs w0 w) {S' : Sig} (hS : S' = S ∨ S' = S.drop cs) : WF S' w := by
  have := hR.wf h.hF.wf
  rcases hS with rfl | rfl
  · exact this
  · exact drop_wf this
theorem sg_or {S : Sig} {l : Array Oper} {c cs i : Nat} : sg S l c cs i = S ∨ sg S l c cs i = S.drop cs := by
  unfold sg
  split
  · exact .inr rfl
  · exact .inl rfl
theorem sg_to {S : Sig} {l : Array Oper} {c cs k : Nat} {S' : Sig} (hS : S' = S ∨ S' = S.drop cs) (hl : lateOf l c k = true → S' = S.drop cs) {w : World} {v : Value} {d : D} (h : Fz (sg S l c cs k).lim w v d) : Fz S'.lim w v d := by
  unfold sg at h
  split at h
  · rename_i hk
    rw [hl hk]
    exact h
  · rcases hS with rfl | rfl
    · exact h
    · exact drop_lim h
theorem sg_loc {S : Sig} {l : Array Oper} {c cs k : Nat} : (sg S l c cs k).loc = S.loc := by
  unfold sg
  split <;> rfl
/-- An object that is there from the beginning. -/
theorem QC.refOwn {S : Sig} {l : List Oper} {c cs : Nat} {a0 : Act} {frF fr0 : List D} {w0 w : World} (h : QC S l c cs a0 frF fr0 w0) (hR : Rw S cs w0 w) {S' : Sig} (hS : S' = S ∨ S' = S.drop cs) {u : Nat} {ds : List D} (hd : fr0[u]? = some (.obj ds)) : S'.own (S'.loc (u + 2)) = some (.slot u, 0) ∧ S'.loc = S.loc := by
  have hlt : u < a0.tmps.size := by
    rw [h.hF.size]
    have := (List.getElem?_eq_some_iff.1 hd).1
    rw [h.hX] at this
    simpa using this
  have hv : a0.tmps[u]? = some a0.tmps[u] := by simp [hlt]
  have hr := h.hold hR hS hd hv (fun x e => by cases e)
  obtain ⟨b, cur, e, _, hb, hloc, _⟩ := hr.obj_inv
  exact ⟨by rw [hloc]; exact hb, by rcases hS with rfl | rfl <;> rfl⟩
/-- What the slot of an object holds. -/
theorem QC.objVal {S : Sig} {l : List Oper} {c cs : Nat} {a0 : Act} {frF fr0 : List D} {w0 : World} (h : QC S l c cs a0 frF fr0 w0) {u : Nat} {ds : List D} (hd : fr0[u]? = some (.obj ds)) : a0.tmps[u]? = some (.pointer (some ⟨S.loc (u + 2), 0, none⟩)) := by
  have huc : u ≠ cs := fun e => by subst e; have := h.at_cs hd; cases this
  rw [h.other huc] at hd
  obtain ⟨v, hv, hs⟩ := h.hF.at hd
  obtain ⟨b, cur, e, rfl, _, hloc, _⟩ := hs.1.obj_inv
  rw [hv, hloc]
section
variable {P : Program} {T : Nat → Option TI} {Z : Nat → Option (List Value)}
theorem eval_other {a b : Act} {x : Operand} (hx : ∀ t, x ≠ .tmp t) : a.eval x = b.eval x := by
  cases x with
  | tmp t => exact absurd rfl (hx t)
  | _ => rfl
theorem evalD_nil {S : Sig} {w : World} {a : Act} {x : Operand} (hx : ∀ t, x ≠ .tmp t) : ∃ q, Rep S w q (a.eval x) (evalD [] x) := by
  cases x with
  | tmp t => exact absurd rfl (hx t)
  | const v =>
    unfold evalD Act.eval
    cases v with
    | agg cs => exact ⟨.dead, .fz (.any _)⟩
    | _ => exact ⟨.dead, .fz (ofVal_rep _ (by intro cs hc; cases hc))⟩
  | global g => exact ⟨.dead, .fz (.any _)⟩
  | func f => exact ⟨.dead, .fz (.fn [] rfl (fun j d v hd => by simp at hd))⟩
theorem tmp_eval {a : Act} {t : Nat} {v : Value} (h : a.tmps[t]? = some v) : a.eval (.tmp t) = v := by simp [Act.eval, Array.getD_eq_getD_getElem?, h]
/-- What an operand is, whatever came before of that which need not have come. -/
theorem QInv.eval {S S' : Sig} {c cs : Nat} {a0 : Act} {frF fr0 fr : List D} {pre : List Oper} {fs : List (World → Prop)} {a : Act} {l : List Oper} {o : Oper} {w0 w : World} (h : QInv S l.toArray c cs a0 fr0 pre fs a fr) (hC : QC S l c cs a0 frF fr0 w0) (hpre : ∀ (k : Nat) (p : Oper), pre[k]? = some p → l[k]? = some p) (ho : l[pre.length]? = some o)
    (hR : Rw S cs w0 w) (hS : S' = S ∨ S' = S.drop cs) (hSd : ∀ e ∈ o.after.toList, Region.binds .any e = true → lateOf l.toArray c e.on = true → S' = S.drop cs)
    (hf : ∀ e ∈ o.after.toList, Region.binds .any e = true → (fs.getD e.on (fun _ => True)) w) {x : Operand} (hm : ∀ t, x = .tmp t → t ∈ o.looksAt l.toArray) : ∃ q, Rep S' w q (a.eval x) (evalQ fr0 fr x) := by
  have hF := hC.hF
  have hok := hC.hok
  cases x with
  | tmp t =>
    unfold evalQ
    simp only
    cases hd : fr[t]? with
    | none => exact ⟨.dead, .fz (.any _)⟩
    | some d =>
      rcases h.slot t d hd with ⟨h1, h2⟩ | ⟨k, p, v, k1, k2, k3, k4, k5⟩
      · have hlt : t < a0.tmps.size := by
          rw [hF.size]
          have := (List.getElem?_eq_some_iff.1 h2).1
          rw [hC.hX] at this
          simpa using this
        have hv : a0.tmps[t]? = some a0.tmps[t] := by simp [hlt]
        generalize a0.tmps[t] = v at hv
        have hav : a.eval (.tmp t) = v := tmp_eval (h1.trans hv)
        rw [hav]
        cases d with
        | al u =>
          have htc : t ≠ cs := fun e => by subst e; have := hC.at_cs h2; cases this
          rw [hC.other htc] at h2
          obtain ⟨g1, d', g2, g3, _⟩ := hF.slot t _ v h2 hv
          simp only
          by_cases huc : u = cs
          · cases hdu : fr0[u]? with
            | none => exact ⟨.dead, .fz (.any _)⟩
            | some e =>
              subst huc
              obtain rfl := hC.at_cs hdu
              exact ⟨.dead, .fz (.any _)⟩
          · rw [← hC.other huc] at g2
            simp only [g2, Option.getD_some]
            exact ⟨_, hC.hold hR hS g2 g1 (fun x e => by subst e; simp [D.owns] at g3)⟩
        | _ => exact ⟨.slot t, hC.hold hR hS h2 hv (fun x e => by cases e)⟩
      · have hkl : k < pre.length := (List.getElem?_eq_some_iff.1 k1).1
        have hpair := (parOk_pair hok (i := pre.length) (k := k) (o := o) (p := p) (by simpa using ho) (by simpa using hpre k p k1) (by omega) k2).2 (hm t rfl)
        have hdep : depOn o k = true := by
          rcases hpair with h | h
          · exact h
          · obtain ⟨e, he, hb, hek⟩ := depOn_spec h
            have := parOk_before hok (i := k) (o := p) (by simpa using hpre k p k1) he hb
            omega
        obtain ⟨e, he, hb, hek⟩ := depOn_spec hdep
        have hfact := hf e (by simpa using he) hb
        rw [hek, List.getD_eq_getElem?_getD, k4] at hfact
        have hav : a.eval (.tmp t) = v := tmp_eval k3
        rw [hav]
        simp only [Option.getD_some] at hfact
        have h2 := hfact.2
        have hsd : lateOf l.toArray c k = true → S' = S.drop cs := fun hk => hSd e (by simpa using he) hb (by rw [hek]; exact hk)
        cases d with
        | al u =>
          simp only
          rcases (k5 : AlOk fr0 cs u) with ⟨rfl, _⟩ | ⟨d', g2, g3⟩
          · cases hdu : fr0[u]? with
            | none => exact ⟨.dead, .fz (.any _)⟩
            | some e =>
              obtain rfl := hC.at_cs hdu
              exact ⟨.dead, .fz (.any _)⟩
          · have hlt : u < a0.tmps.size := by
              rw [hF.size]
              have := (List.getElem?_eq_some_iff.1 g2).1
              rw [hC.hX] at this
              simpa using this
            have hv' : a0.tmps[u]? = some a0.tmps[u] := by simp [hlt]
            simp only at h2
            rw [tmp_eval hv'] at h2
            subst h2
            simp only [g2, Option.getD_some]
            exact ⟨_, hC.hold hR hS g2 hv' (fun x e => by subst e; simp [D.owns] at g3)⟩
        | ref u off =>
          obtain ⟨ds, hc⟩ := (k5 : ∃ c, fr0[u]? = some (.obj c))
          have hob := hC.refOwn hR hS hc
          have hl : (sg S l.toArray c cs k).loc = S'.loc := by rw [sg_loc, hob.2]
          simp only at h2
          rw [h2, hl]
          exact ⟨.dead, .ref hob.1⟩
        | _ => exact ⟨.dead, .fz (sg_to hS hsd h2)⟩
  | const v => exact evalD_nil (fun t e => by cases e)
  | global g => exact evalD_nil (fun t e => by cases e)
  | func f => exact evalD_nil (fun t e => by cases e)
theorem gdsQ_rep {S : Sig} {w : World} {a : Act} {fr0 fr : List D} : ∀ (xs : List Operand), (∀ x ∈ xs, ∃ q, Rep S w q (a.eval x) (evalQ fr0 fr x)) → holds (gds (evalQ fr0 fr) xs) → ∀ x ∈ xs, ∃ q, Rep S w q (a.eval x) (strip (evalQ fr0 fr x))
  | [], _, _, x, hx => by cases hx
  | y :: xs, hr, hg, x, hx => by
    simp only [gds] at hg
    have key : holds (gds (evalQ fr0 fr) xs) ∧ ∃ q, Rep S w q (a.eval y) (strip (evalQ fr0 fr y)) := by
      obtain ⟨q, hq⟩ := hr y (by simp)
      split at hg
      · rename_i c d hy
        rw [hy] at hq ⊢
        split at hg
        · rename_i hn
          rw [hn]
          exact ⟨trivial, .dead, .fz (hq.gd_inv.1 hg)⟩
        · rename_i p hp
          rw [hp]
          exact ⟨hg.2, .dead, .fz (hq.gd_inv.1 hg.1)⟩
      · rename_i hn
        refine ⟨hg, q, ?_⟩
        generalize evalQ fr0 fr y = d at hq hn ⊢
        cases d with
        | gd c d => exact absurd rfl (hn c d)
        | _ => exact hq
    rcases List.mem_cons.1 hx with rfl | hx
    · exact key.2
    · exact gdsQ_rep xs (fun x hx => hr x (by simp [hx])) key.1 x hx
/-- What the guard says, whatever came before. -/
theorem QInv.wanted {S S' : Sig} {c cs : Nat} {a0 : Act} {frF fr0 fr : List D} {pre : List Oper} {fs : List (World → Prop)} {a : Act} {l : List Oper} {o : Oper} {w0 w : World} (h : QInv S l.toArray c cs a0 fr0 pre fs a fr) (hC : QC S l c cs a0 frF fr0 w0) (hpre : ∀ (k : Nat) (p : Oper), pre[k]? = some p → l[k]? = some p) (ho : l[pre.length]? = some o)
    (hR : Rw S cs w0 w) (hS : S' = S ∨ S' = S.drop cs) (hSd : ∀ e ∈ o.after.toList, Region.binds .any e = true → lateOf l.toArray c e.on = true → S' = S.drop cs)
    (hf : ∀ e ∈ o.after.toList, Region.binds .any e = true → (fs.getD e.on (fun _ => True)) w) {j : Nat} {want cb : Bool} (hg : o.guard = some (j, want)) (hc : condOf l fr j want = some cb) : Region.wanted o (yielded l.toArray a.tmps) = cb := by
  unfold condOf at hc
  split at hc
  · rename_i oj hj
    split at hc
    · rename_i t ht
      have hlook : t ∈ o.looksAt l.toArray := by
        unfold Oper.looksAt
        refine List.mem_append_right _ ?_
        rw [hg]
        simp [hj, ht]
      have hy : ∀ v, a.tmps[t]? = some v → ((l.toArray[j]?).bind (·.dst)).bind (a.tmps[·]?) = some v := fun v hv => by
        simp only [List.getElem?_toArray, hj, Option.bind_some, ht, hv]
      obtain ⟨q, hq⟩ := h.eval hC hpre ho hR hS hSd hf (x := .tmp t) (fun t' e => by cases e; exact hlook)
      split at hc
      · rename_i b hd
        have hlt : t < a.tmps.size := by rw [h.size]; exact (List.getElem?_eq_some_iff.1 hd).1
        have hv : a.tmps[t]? = some a.tmps[t] := by simp [hlt]
        rw [tmp_eval hv] at hq
        simp only [evalQ, hd] at hq
        have hb := hq.bool_inv
        refine wanted_at hg (hy _ hv) ?_
        rw [hb]
        cases want <;> simp only [Option.some.injEq] at hc <;> subst hc <;> simp [boolOf]
      · rename_i c0 b hd
        have hlt : t < a.tmps.size := by rw [h.size]; exact (List.getElem?_eq_some_iff.1 hd).1
        have hv : a.tmps[t]? = some a.tmps[t] := by simp [hlt]
        rw [tmp_eval hv] at hq
        simp only [evalQ, hd] at hq
        obtain ⟨k1, k0⟩ := hq.gd_inv
        refine wanted_at hg (hy _ hv) ?_
        cases c0 with
        | true =>
          rw [(Rep.fz (S := S') (p := .dead) (k1 rfl)).bool_inv]
          cases want <;> simp only [Option.some.injEq] at hc <;> subst hc <;> simp [boolOf]
        | false =>
          rw [k0 rfl]
          cases want <;> simp only [Option.some.injEq] at hc <;> subst hc <;> simp [boolOf, undef]
      · cases hc
    · cases hc
  · cases hc
theorem frzQ_noal {d : D} (ho : okQ d = true) : ∀ u, frzQ d ≠ .al u := by
  intro u e
  unfold frzQ at e
  split at e
  · subst e; rename_i h; cases h
  · rename_i h
    cases d <;> first | exact Bool.noConfusion (show true = false from h) | exact Bool.noConfusion (show false = true from ho) | (simp [D.frz] at e; done)
theorem frzQ_noref {d : D} (ho : okQ d = true) : ∀ u off, frzQ d ≠ .ref u off := by
  intro u off e
  unfold frzQ at e
  split at e
  · subst e; rename_i h; cases h
  · rename_i h
    cases d <;> first | exact Bool.noConfusion (show true = false from h) | exact Bool.noConfusion (show false = true from ho) | (simp [D.frz] at e; done)
theorem frzQ_nm {d : D} (ho : okQ d = true) {fr0 : List D} {cs : Nat} : NmOk fr0 cs (frzQ d) := by
  have h1 := frzQ_noal ho
  have h2 := frzQ_noref ho
  generalize frzQ d = e at *
  cases e with
  | al u => exact absurd rfl (h1 u)
  | ref u off => exact absurd rfl (h2 u off)
  | _ => trivial
/-- What a name stands for. -/
theorem QInv.evAl {S : Sig} {c cs : Nat} {a0 : Act} {frF fr0 fr : List D} {pre : List Oper} {fs : List (World → Prop)} {a : Act} {l : List Oper} {o : Oper} {w0 w : World} (hI : QInv S l.toArray c cs a0 fr0 pre fs a fr) (hC : QC S l c cs a0 frF fr0 w0) (hpre : ∀ (k : Nat) (p : Oper), pre[k]? = some p → l[k]? = some p) (ho : l[pre.length]? = some o) {u0 u : Nat} (hlook : u0 ∈ o.looksAt l.toArray) (hd : fr[u0]? = some (.al u))
    (hf : ∀ e ∈ o.after.toList, Region.binds .any e = true → (fs.getD e.on (fun _ => True)) w) : a.eval (.tmp u0) = a0.eval (.tmp u) := by
  have hF := hC.hF
  have hok := hC.hok
  rcases hI.slot _ _ hd with ⟨h1, h2⟩ | ⟨k, p, v, k1, k2, k3, k4, k5⟩
  · have htc : u0 ≠ cs := fun e => by subst e; have := hC.at_cs h2; cases this
    rw [hC.other htc] at h2
    obtain ⟨v, hv, hsl⟩ := hF.at h2
    rw [tmp_eval (h1.trans hv), tmp_eval hsl.1]
  · have hkl : k < pre.length := (List.getElem?_eq_some_iff.1 k1).1
    have hpair := (parOk_pair hok (i := pre.length) (k := k) (o := o) (p := p) (by simpa using ho) (by simpa using hpre k p k1) (by omega) k2).2 hlook
    have hdep : depOn o k = true := by
      rcases hpair with h | h
      · exact h
      · obtain ⟨e, he, hb, hek⟩ := depOn_spec h
        have := parOk_before hok (i := k) (o := p) (by simpa using hpre k p k1) he hb
        omega
    obtain ⟨e, he, hb, hek⟩ := depOn_spec hdep
    have hfact := hf e (by simpa using he) hb
    rw [hek, List.getD_eq_getElem?_getD, k4] at hfact
    rw [tmp_eval k3]
    exact hfact.2
/-- One operation among others whose order is open. -/
theorem stepQ_sound (hT : TOk P T Z) {S : Sig} {ci cs : Nat} {a0 : Act} {frF fr0 fr : List D} {l pre : List Oper} {o : Oper} {w0 : World} {Q : Exit → Act → World → Prop} {K : D → Prop} (hC : QC S l ci cs a0 frF fr0 w0) (hpre : ∀ (k : Nat) (p : Oper), pre[k]? = some p → l[k]? = some p) (ho : l[pre.length]? = some o)
    (hs : stepQ P T Z l cs fr0 fr o K) : ∃ d, K d ∧ NmOk fr0 cs d ∧ ∀ (fs : List (World → Prop)) (a : Act), QInv S l.toArray ci cs a0 fr0 pre fs a fr → ∀ w, Rw S cs w0 w → (∀ e ∈ o.after.toList, Region.binds .any e = true → (fs.getD e.on (fun _ => True)) w) → StepAt P l.toArray Q o (factSpec (sg S l.toArray ci cs pre.length) a0 d) a w := by
  obtain ⟨S1, hS1⟩ : ∃ S1, S1 = sg S l.toArray ci cs pre.length := ⟨_, rfl⟩
  rw [← hS1]
  have hSd : ∀ e ∈ o.after.toList, Region.binds .any e = true → lateOf l.toArray ci e.on = true → S1 = S.drop cs := fun e he hb hl => by
    rw [hS1]
    unfold sg
    rw [if_pos (late_dep hC.hlate (by simpa using ho) he hb hl).1]
  have hS1o : S1 = S ∨ S1 = S.drop cs := hS1 ▸ sg_or
  have hF := hC.hF
  have hok := hC.hok
  have hops : ∀ x ∈ o.op.operands.toList, ∀ t, x = .tmp t → t ∈ o.looksAt l.toArray := fun x hx t e => by
    subst e
    exact List.mem_append_left _ (List.mem_filterMap.2 ⟨.tmp t, hx, rfl⟩)
  have wfw : ∀ {w : World}, Rw S cs w0 w → WF S1 w := fun hx => hC.wf hx hS1o
  -- a value that is known to be so
  have done : ∀ {d : D} (a : Act) (w : World), Rw S cs w0 w → Region.wanted o (yielded l.toArray a.tmps) = true → (∀ K', (∀ v w', Fact S1 a0 d v w' → Ext w w' → K' (a.put o.dst v) w') → o.wp P a w K' (NoPanic Q)) → StepAt P l.toArray Q o (factSpec S1 a0 d) a w := by
    intro d a w _ hw h
    unfold StepAt
    rw [if_pos hw]
    exact fun K' hK => .inl (h K' fun v w' h1 h2 => hK (0, 0, v) w' h1 h2)
  have plainOp : ∀ {s : Option Prop} {d : D}, holds s → okQ d = true → (holds s → OpOk P o (evalQ fr0 fr) d) → NmOk fr0 cs (frzQ d) ∧ ∀ (fs : List (World → Prop)) (a : Act), QInv S l.toArray ci cs a0 fr0 pre fs a fr → o.guard = none → ∀ w, Rw S cs w0 w → (∀ e ∈ o.after.toList, Region.binds .any e = true → (fs.getD e.on (fun _ => True)) w) → StepAt P l.toArray Q o (factSpec S1 a0 (frzQ d)) a w := by
    intro s d h1 h2 h3
    refine ⟨frzQ_nm h2, fun fs a hI hg w hx hf => done a w hx (by unfold Region.wanted; rw [hg]) fun K' hK => ?_⟩
    obtain ⟨p, _, _, hp⟩ := fresh_place S1 w (wfw hx)
    refine h3 h1 S1 w a p (wfw hx) (fun x hx' => hI.eval hC hpre ho hx hS1o hSd hf (hops x hx')) K' _ fun v S' w' hpt hr _ => hK v w' ⟨?_, ?_⟩ hpt.ext
    · exact (PT.ext' (wfw hx) hpt.ext).wf
    · have hz := unown (wfw hx) hpt hp hr h2
      have hn := frzQ_noal h2
      have hn' := frzQ_noref h2
      generalize frzQ d = e at hz hn hn' ⊢
      cases e with
      | al u => exact absurd rfl (hn u)
      | ref u off => exact absurd rfl (hn' u off)
      | _ => exact hz
  unfold stepQ at hs
  split at hs
  · rename_i hg
    have hopD : (opD P T Z (evalQ fr0 fr) o.op fun s d => andO s (match okQ d with | true => force (frzQ d) K | false => False)) → ∃ d, K d ∧ NmOk fr0 cs d ∧ ∀ (fs : List (World → Prop)) (a : Act), QInv S l.toArray ci cs a0 fr0 pre fs a fr → ∀ w, Rw S cs w0 w → (∀ e ∈ o.after.toList, Region.binds .any e = true → (fs.getD e.on (fun _ => True)) w) → StepAt P l.toArray Q o (factSpec S1 a0 d) a w := by
      intro h
      obtain ⟨s, d, h1, h3⟩ := opD_sound (dst := o.dst) (ty := o.type) (pos := o.pos) (after := o.after) (guard := o.guard) hT h
      obtain ⟨g1, g2⟩ := andO_iff.1 h1
      split at g2
      · rename_i hq
        rw [force_eq] at g2
        obtain ⟨k1, k2⟩ := plainOp g1 hq h3
        exact ⟨_, g2, k1, fun fs a hI w hx hf => k2 fs a hI hg w hx hf⟩
      · exact g2.elim
    have aliasOp : ∀ {u0 u : Nat}, o.op = .move (.tmp u0) → AlOk fr0 cs u → (∀ (fs : List (World → Prop)) (a : Act), QInv S l.toArray ci cs a0 fr0 pre fs a fr → ∀ w, (∀ e ∈ o.after.toList, Region.binds .any e = true → (fs.getD e.on (fun _ => True)) w) → a.eval (.tmp u0) = a0.eval (.tmp u)) → K (.al u) → ∃ d, K d ∧ NmOk fr0 cs d ∧ ∀ (fs : List (World → Prop)) (a : Act), QInv S l.toArray ci cs a0 fr0 pre fs a fr → ∀ w, Rw S cs w0 w → (∀ e ∈ o.after.toList, Region.binds .any e = true → (fs.getD e.on (fun _ => True)) w) → StepAt P l.toArray Q o (factSpec S1 a0 d) a w := by
      intro u0 u hop hown hev hK
      refine ⟨_, hK, hown, fun fs a hI w hx hf => done a w hx (by unfold Region.wanted; rw [hg]) fun K' hK' => ?_⟩
      obtain ⟨dst, op, ty, pos, after, guard⟩ := o
      simp only at hop
      subst hop
      exact r_move rfl (hK' _ w ⟨wfw hx, hev fs a hI w hf⟩ (Ext.refl w))
    have evAl : ∀ {u0 u : Nat}, o.op = .move (.tmp u0) → fr[u0]? = some (.al u) → ∀ (fs : List (World → Prop)) (a : Act), QInv S l.toArray ci cs a0 fr0 pre fs a fr → ∀ w, (∀ e ∈ o.after.toList, Region.binds .any e = true → (fs.getD e.on (fun _ => True)) w) → a.eval (.tmp u0) = a0.eval (.tmp u) := fun hop hd fs a hI w hf => hI.evAl hC hpre ho (hops (.tmp _) (by rw [hop]; simp [Op.operands]) _ rfl) hd hf
    split at hs
    · rename_i u0 hop
      split at hs
      · rename_i hu
        have := Nat.eq_of_beq_eq_true hu
        subst this
        split at hs
        · rename_i e he
          refine aliasOp hop (.inl ⟨rfl, e, he⟩) (fun fs a hI w hf => ?_) hs
          simp [Act.eval, Array.getD_eq_getD_getElem?, hI.keep]
        · exact hs.elim
      · rename_i hu
        split at hs
        · rename_i m sz rows hd
          split at hs
          · rename_i hd0
            refine aliasOp hop (.inr ⟨_, hd0, rfl⟩) (fun fs a hI w hf => ?_) hs
            obtain ⟨_, h2⟩ := hI.own _ _ hd0 rfl
            simp [Act.eval, Array.getD_eq_getD_getElem?, h2]
          · exact hs.elim
        · rename_i u' hd
          split at hs
          · rename_i hu'
            have := Nat.eq_of_beq_eq_true hu'
            subst this
            split at hs
            · rename_i e he
              exact aliasOp hop (.inl ⟨rfl, e, he⟩) (evAl hop hd) hs
            · exact hs.elim
          · split at hs
            · rename_i hd0
              exact aliasOp hop (.inr ⟨_, hd0, rfl⟩) (evAl hop hd) hs
            · exact hs.elim
        · exact hopD hs
    · rename_i c x y hop
      have hm : ∀ z, z ∈ [c, x, y] → ∀ t, z = .tmp t → t ∈ o.looksAt l.toArray := fun z hz => hops z (by rw [hop]; simpa [Op.operands] using hz)
      obtain ⟨s, r, hp, h12⟩ := pickD_inv hs
      obtain ⟨h1, h2⟩ := andO_iff.1 h12
      rw [force_eq] at h2
      refine ⟨_, h2, trivial, fun fs a hI w hx hf => done a w hx (by unfold Region.wanted; rw [hg]) fun K' hK => ?_⟩
      have hev : ∀ z, z ∈ [c, x, y] → ∃ q, Rep S1 w q (a.eval z) (evalQ fr0 fr z) := fun z hz => hI.eval hC hpre ho hx hS1o hSd hf (hm z hz)
      obtain ⟨p, h3, h4⟩ := pickR_sound (hev c (by simp)) (hev x (by simp)) (hev y (by simp)) hp h1
      obtain ⟨dst, op, ty, pos, after, guard⟩ := o
      simp only at hop
      subst hop
      refine pick_run h3 ?_
      rw [h4]
      exact hK _ w ⟨wfw hx, .bool r⟩ (Ext.refl w)
    · rename_i ty0 u i hop
      split at hs
      · rename_i ds hd
        split at hs
        · rename_i ht
          split at hs
          · rename_i off n ag hfl
            haveI := (hT.ty _ _ ht).2.1 _ _ _ _ hfl
            refine ⟨_, hs, ⟨ds, hd⟩, fun fs a hI w hx hf => done a w hx (by unfold Region.wanted; rw [hg]) fun K' hK => ?_⟩
            obtain ⟨_, h2⟩ := hI.own u _ hd rfl
            have hval := hC.objVal hd
            have hloc : S1.loc = S.loc := by rcases hS1o with rfl | rfl <;> rfl
            obtain ⟨dst, op, ty, pos, after, guard⟩ := o
            simp only at hop
            subst hop
            refine r_fieldAddr (tmp_eval (h2.trans hval)) ?_
            rw [Nat.zero_add]
            exact hK _ w ⟨wfw hx, by rw [hloc]⟩ (Ext.refl w)
          · exact hs.elim
        · exact hs.elim
      · exact hopD hs
    · exact hopD hs
  · rename_i j want hg
    split at hs
    · rename_i c hc
      -- carried out, or passed over
      have both : ∀ {d : D} (a : Act) (w : World) (fs : List (World → Prop)), QInv S l.toArray ci cs a0 fr0 pre fs a fr → Rw S cs w0 w → (∀ e ∈ o.after.toList, Region.binds .any e = true → (fs.getD e.on (fun _ => True)) w) →
          (c = true → ∀ K', (∀ v w', Fz S1.lim w' v d → Ext w w' → K' (a.put o.dst v) w') → o.wp P a w K' (NoPanic Q)) → StepAt P l.toArray Q o (factSpec S1 a0 (.gd c d)) a w := by
        intro d a w fs hI hx hf h
        have hw := hI.wanted hC hpre ho hx hS1o hSd hf hg hc
        unfold StepAt
        rw [hw]
        cases c with
        | true =>
          rw [if_pos rfl]
          exact fun K' hK => .inl (h rfl K' fun v w' h1 h2 => hK (0, 0, v) w' ⟨(PT.ext' (wfw hx) h2).wf, .gd (fun _ => h1) (fun e => by cases e)⟩ h2)
        | false =>
          rw [if_neg (by simp)]
          exact ⟨(0, 0, undef), rfl, wfw hx, .gd (fun e => by cases e) (fun _ => rfl)⟩
      split at hs
      · rename_i cc x y hop
        have hm : ∀ z, z ∈ [cc, x, y] → ∀ t, z = .tmp t → t ∈ o.looksAt l.toArray := fun z hz => hops z (by rw [hop]; simpa [Op.operands] using hz)
        obtain ⟨s, r, hp, h12⟩ := pickD_inv hs
        obtain ⟨h1, h2⟩ := andO_iff.1 h12
        refine ⟨_, h2, trivial, fun fs a hI w hx hf => both a w fs hI hx hf fun hct K' hK => ?_⟩
        have hev : ∀ z, z ∈ [cc, x, y] → ∃ q, Rep S1 w q (a.eval z) (evalQ fr0 fr z) := fun z hz => hI.eval hC hpre ho hx hS1o hSd hf (hm z hz)
        obtain ⟨hgd, hs'⟩ := under_holds h1 hct
        obtain ⟨p, h3, h4⟩ := pickR_sound (gdsQ_rep [cc] (fun z hz => hev z (by simp at hz; simp [hz])) hgd cc (by simp)) (hev x (by simp)) (hev y (by simp)) hp hs'
        obtain ⟨dst, op, ty, pos, after, guard⟩ := o
        simp only at hop
        subst hop
        refine pick_run h3 ?_
        rw [h4]
        exact hK _ w (.bool r) (Ext.refl w)
      · obtain ⟨s, d, h1, h3⟩ := opD_sound (dst := o.dst) (ty := o.type) (pos := o.pos) (after := o.after) (guard := o.guard) hT hs
        obtain ⟨h1, h2⟩ := andO_iff.1 h1
        split at h2
        · rename_i hpass
          rw [force_eq] at h2
          refine ⟨_, h2, trivial, fun fs a hI w hx hf => both a w fs hI hx hf fun hct K' hK => ?_⟩
          obtain ⟨hgd, hs'⟩ := under_holds h1 hct
          obtain ⟨p, _, _, hp⟩ := fresh_place S1 w (wfw hx)
          refine h3 hs' S1 w a p (wfw hx) (fun x hx' => gdsQ_rep _ (fun z hz => hI.eval hC hpre ho hx hS1o hSd hf (hops z hz)) hgd x hx') K' _ fun v S' w' hpt hr _ => hK v w' ?_ hpt.ext
          have hok' : okQ d = true := by unfold okQ; rw [hpass]
          have hz := unown (wfw hx) hpt hp hr hok'
          have e : frzQ d = d := by unfold frzQ; rw [hpass]
          rwa [e] at hz
        · exact h2.elim
    · exact hs.elim
theorem QInv.step {S : Sig} {c cs : Nat} {a0 : Act} {fr0 fr : List D} {pre l : List Oper} {fs : List (World → Prop)} {a : Act} {o : Oper} {d : D} {v : Value} (h : QInv S l.toArray c cs a0 fr0 pre fs a fr)
    (hal : NmOk fr0 cs d) {fr' : List D} (hfr : (o.dst = none ∧ fr' = fr) ∨ ∃ t d0, o.dst = some t ∧ fr[t]? = some d0 ∧ d0.owns = false ∧ t ≠ cs ∧ fr' = fr.set t d) : QInv S l.toArray c cs a0 fr0 (pre ++ [o]) (fs ++ [Fact (sg S l.toArray c cs pre.length) a0 d v]) (a.put o.dst v) fr' := by
  have ext : ∀ (k : Nat) (p : Oper), pre[k]? = some p → (pre ++ [o])[k]? = some p := fun k p hk => by
    rw [List.getElem?_append_left (List.getElem?_eq_some_iff.1 hk).1]; exact hk
  have extf : ∀ (k : Nat) (f : World → Prop), fs[k]? = some f → (fs ++ [Fact (sg S l.toArray c cs pre.length) a0 d v])[k]? = some f := fun k p hk => by
    rw [List.getElem?_append_left (List.getElem?_eq_some_iff.1 hk).1]; exact hk
  rcases hfr with ⟨hn, rfl⟩ | ⟨t, d0, ht, h0, hd0, htc, rfl⟩
  · rw [hn]
    refine ⟨h.size, h.len, h.defers, by simp [h.fslen], fun t e he => ?_, h.own, h.keep⟩
    rcases h.slot t e he with hl | ⟨k, p, u, k1, k2, k3, k4, k5⟩
    · exact .inl hl
    · exact .inr ⟨k, p, u, ext k p k1, k2, k3, extf k _ k4, k5⟩
  · rw [ht]
    have hlt : t < fr.length := (List.getElem?_eq_some_iff.1 h0).1
    refine ⟨by simp [Act.put, h.size], by simp [h.len], by simp [Act.put, h.defers], by simp [h.fslen], fun x e he => ?_, fun u e he hoe => ?_, by rw [put_tmps_ne (Ne.symm htc)]; exact h.keep⟩
    · by_cases hxt : x = t
      · subst hxt
        rw [List.getElem?_set_self hlt] at he
        cases he
        refine .inr ⟨pre.length, o, v, by simp, ht, put_tmps_eq (by rw [h.size]; exact hlt), ?_, hal⟩
        rw [← h.fslen]; simp
      · rw [List.getElem?_set_ne (Ne.symm hxt)] at he
        rw [put_tmps_ne hxt]
        rcases h.slot x e he with hl | ⟨k, p, u, k1, k2, k3, k4, k5⟩
        · exact .inl hl
        · exact .inr ⟨k, p, u, ext k p k1, k2, k3, extf k _ k4, k5⟩
    · obtain ⟨g1, g2⟩ := h.own u e he hoe
      have hut : u ≠ t := fun e' => by subst e'; rw [g1] at h0; cases h0; rw [hoe] at hd0; cases hd0
      exact ⟨by rw [List.getElem?_set_ne (Ne.symm hut)]; exact g1, by rw [put_tmps_ne hut]; exact g2⟩
/-- All came: the frame is what the text says. -/
theorem QInv.fr {S : Sig} {c cs : Nat} {a0 : Act} {frF fr0 fr : List D} {pre l : List Oper} {fs : List (World → Prop)} {a : Act} {w0 w : World} (h : QInv S l.toArray c cs a0 fr0 pre fs a fr) (hC : QC S l c cs a0 frF fr0 w0) (hR : Rw S cs w0 w) (hf : ∀ f ∈ fs, f w) : FR (S.drop cs) w a (fr.map (unal cs .any)) ∧ (fr0[cs]? = none → FR (S.drop cs) w a fr) := by
  have hF := hC.hF
  have hwf := hC.wf hR (.inr rfl)
  -- whatever frame holds what the owners are
  have key : ∀ F : List D, (∀ u d, u ≠ cs → fr0[u]? = some d → d.owns = true → F[u]? = some d) → ∀ (i : Nat) (d : D) (v : Value), fr[i]? = some d → a.tmps[i]? = some v → d ≠ .al cs → SlotRep (S.drop cs) w a F i v d := by
    intro F hFo i d v hd hv hnc
    have hrk : ∀ e, RefOk frF e → RefOk F e := fun e he x hx => by
      obtain ⟨cs', hc⟩ := he x hx
      have hxc : x ≠ cs := fun e => by subst e; exact hC.hno _ hc
      rw [← hC.other hxc] at hc
      exact ⟨cs', hFo x _ hxc hc rfl⟩
    rcases h.slot i d hd with ⟨h1, h2⟩ | ⟨k, p, u, k1, k2, k3, k4, k5⟩
    · by_cases hic : i = cs
      · subst hic
        obtain rfl := hC.at_cs h2
        exact SlotRep.of (.fz (.any _)) fun t ht => by cases ht
      · rw [hC.other hic] at h2
        have hs := hF.slot i d v h2 (h1.symm.trans hv)
        cases d with
        | al x =>
          obtain ⟨g1, d', g2, g3, g4⟩ := hs
          have hxc : x ≠ cs := fun e => hnc (by rw [e])
          rw [← hC.other hxc] at g2
          obtain ⟨q1, q2⟩ := h.own x d' g2 g3
          exact ⟨q2.trans g1, d', hFo x d' hxc g2 g3, g3, g4⟩
        | _ => exact ⟨hR.rep hF.wf (.inr rfl) hC.hno hic hs.1 hs.2, hrk _ hs.2⟩
    · obtain rfl : u = v := Option.some.inj (k3.symm.trans hv)
      have h2 := (hf _ (List.mem_of_getElem? k4)).2
      cases d with
      | al x =>
        rcases (k5 : AlOk fr0 cs x) with ⟨rfl, _⟩ | ⟨d', g2, g3⟩
        · exact absurd rfl hnc
        · have hxc : x ≠ cs := fun e => hnc (by rw [e])
          obtain ⟨q1, q2⟩ := h.own x d' g2 g3
          have hg2 := g2
          rw [hC.other hxc] at hg2
          obtain ⟨v', hv', _⟩ := hF.at hg2
          simp only at h2
          rw [tmp_eval hv'] at h2
          subst h2
          refine ⟨q2.trans hv', d', hFo x d' hxc g2 g3, g3, fun e => ?_⟩
          subst e
          rw [q1] at hd
          cases hd
          cases g3
      | ref x off =>
        obtain ⟨ds, hds⟩ := (k5 : ∃ c, fr0[x]? = some (.obj c))
        have hxc : x ≠ cs := fun e => by subst e; have := hC.at_cs hds; cases this
        have hob := hC.refOwn hR (.inr rfl) hds
        simp only at h2
        rw [sg_loc, ← hob.2] at h2
        rw [h2]
        exact ⟨.ref hob.1, fun t ht => by cases ht; exact ⟨ds, hFo x _ hxc hds rfl⟩⟩
      | _ => exact ⟨.fz (sg_to (.inr rfl) (fun _ => rfl) h2), fun t ht => (Fz.men h2 ht).elim⟩
  refine ⟨⟨hwf, by simp [h.size], h.defers, fun i d v hd hv => ?_⟩, fun hn => ⟨hwf, h.size, h.defers, fun i d v hd hv => key fr (fun u d _ h1 h2 => (h.own u d h1 h2).1) i d v hd hv fun e => ?_⟩⟩
  · rw [List.getElem?_map] at hd
    cases hfi : fr[i]? with
    | none => rw [hfi] at hd; cases hd
    | some e =>
      rw [hfi] at hd
      cases hd
      by_cases hnc : e = .al cs
      · subst hnc
        simp only [unal, if_pos]
        exact SlotRep.of (.fz (.any _)) fun t ht => by cases ht
      · have hk := key (fr.map (unal cs .any)) (fun u d _ h1 h2 => by
          rw [List.getElem?_map, (h.own u d h1 h2).1]
          cases d <;> first | rfl | cases h2) i e v hfi hv hnc
        have he : unal cs .any e = e := by
          cases e with
          | al x => simp only [unal]; rw [if_neg (fun e' => hnc (by rw [e']))]
          | _ => rfl
        rw [he]
        exact hk
  · subst e
    rcases h.slot i _ hd with ⟨h1, h2⟩ | ⟨k, p, u, k1, k2, k3, k4, k5⟩
    · have hic : i ≠ cs := fun e => by subst e; rw [hn] at h2; cases h2
      rw [hC.other hic] at h2
      obtain ⟨g1, d', g2, g3, g4⟩ := hF.slot i _ v h2 (h1.symm.trans hv)
      rw [hC.hX, List.getElem?_set] at hn
      simp only [if_true] at hn
      split at hn
      · cases hn
      · rename_i hlt
        exact hlt (List.getElem?_eq_some_iff.1 g2).1
    · rcases (k5 : AlOk fr0 cs cs) with ⟨_, e, he⟩ | ⟨d', g2, _⟩
      · rw [hn] at he; cases he
      · rw [hn] at g2; cases g2
theorem hand_rw {S S' : Sig} {u : Nat} {w w' : World} (hw : WF S w) (ht : Trans (S.hand u) w S' w') : Rw S u w w' := by
  refine ⟨ht.os, ht.tape, ht.output, ht.size, fun b hb hn => (hand_old ht hb hn).1, fun b q l hs hq => ?_⟩
  exact (ht.held b ⟨2, q.path⟩ l (hw b _ hs) (by simp [Sig.hand, hs, hq])).1
/-- The one that writes. -/
theorem writeQ_sound {S : Sig} {ci cs : Nat} {a0 : Act} {frF fr0 fr : List D} {l pre : List Oper} {o : Oper} {w0 : World} {d0 : D} {Q : Exit → Act → World → Prop} {K : D → Prop} (hC : QC S l ci cs a0 frF fr0 w0) (hpre : ∀ (k : Nat) (p : Oper), pre[k]? = some p → l[k]? = some p) (ho : l[pre.length]? = some o) (hic : pre.length = ci)
    (hd0 : ∀ m sz rows, d0 = .sl (m + 1) sz rows → frF[cs]? = some d0) (hs : writeQ P cs d0 fr0 fr o K) : ∃ d, K d ∧ NmOk fr0 cs d ∧ ∀ (fs : List (World → Prop)) (a : Act), QInv S l.toArray ci cs a0 fr0 pre fs a fr → ∀ w, Ext w0 w → (∀ e ∈ o.after.toList, Region.binds .any e = true → (fs.getD e.on (fun _ => True)) w) → StepG P l.toArray Q (Rw S cs) o (factSpec (S.drop cs) a0 d) a w := by
  have hops : ∀ x ∈ o.op.operands.toList, ∀ t, x = .tmp t → t ∈ o.looksAt l.toArray := fun x hx t e => by
    subst e
    exact List.mem_append_left _ (List.mem_filterMap.2 ⟨.tmp t, hx, rfl⟩)
  unfold writeQ at hs
  split at hs
  · exact hs.elim
  · rename_i hg
    split at hs
    · rename_i c hop
      split at hs
      · rename_i f hcal
        split at hs
        · rename_i t xs hargs
          split at hs
          · rename_i hroot
            split at hs
            · rename_i m sz rows
              have hdF := hd0 m sz rows rfl
              obtain ⟨d, out, ⟨d1, ds', rfl, hl, hp, hsem⟩, hput⟩ := hs.h
              split at hput
              · rename_i hq
                rw [force_eq] at hput
                refine ⟨_, hput, frzQ_nm hq, fun fs a hI w hx hf => ?_⟩
                have hopr : ∀ y, y ∈ Operand.tmp t :: xs → ∀ t', y = .tmp t' → t' ∈ o.looksAt l.toArray := fun y hy => hops y (by
                  rw [hop]
                  simp only [Op.operands, Call.operands]
                  have : y ∈ c.args.toList := by rw [hargs]; exact hy
                  simp
                  right
                  simpa using this)
                have hev : a.eval (.tmp t) = a0.eval (.tmp cs) := by
                  simp only [Bool.or_eq_true] at hroot
                  rcases hroot with hb | hb
                  · rw [Nat.eq_of_beq_eq_true hb]
                    simp [Act.eval, Array.getD_eq_getD_getElem?, hI.keep]
                  · split at hb
                    · rename_i u hd
                      obtain rfl := Nat.eq_of_beq_eq_true hb
                      exact hI.evAl hC hpre ho (hopr _ (by simp) t rfl) hd hf
                    · cases hb
                have hw := (PT.ext' hC.hF.wf hx).wf
                have hrep : Rep S w (.slot cs) (a.eval (.tmp t)) (.sl (m + 1) sz rows) := by
                  obtain ⟨v, hv, hsl⟩ := hC.hF.at hdF
                  rw [hev, tmp_eval hv]
                  exact (PT.ext' hC.hF.wf hx).rep hC.hF.wf hsl.1
                unfold StepG
                rw [if_pos (by unfold Region.wanted; rw [hg])]
                refine fun K' hK => .inl ?_
                obtain ⟨dst, op, ty, pos, after, guard⟩ := o
                obtain ⟨callee, args, argTypes⟩ := c
                simp only at hop hcal hargs
                subst hop; subst hcal
                obtain rfl : args = (.tmp t :: xs).toArray := Array.ext' hargs
                refine own_call0 (ρ := evalQ fr0 fr) hw rfl hrep (fun y hy => hI.eval hC hpre ho (Rw.ext hx) (.inl rfl) (fun e he hb hlt => absurd hic (late_dep hC.hlate (by simpa using ho) he hb hlt).2) hf (hopr y (by simp [hy]))) hl hp hsem fun v S' w' hw' ht hrep' hout => ?_
                have hrw := hand_rw hw ht
                refine hK (0, 0, v) w' ⟨drop_wf (hrw.wf hw), ?_⟩ hrw
                have hz := unhand hw ht hrep' hq
                have hn := frzQ_noal hq
                have hn' := frzQ_noref hq
                generalize frzQ d = e at hz hn hn' ⊢
                cases e with
                | al u => exact absurd rfl (hn u)
                | ref u off => exact absurd rfl (hn' u off)
                | _ => exact hz
              · exact hput.elim
            · exact hs.elim
          · exact hs.elim
        · exact hs.elim
      · exact hs.elim
    · exact hs.elim
theorem vcQ_sound (hT : TOk P T Z) {S : Sig} {ci cs : Nat} {a0 : Act} {frF fr0 : List D} {l : List Oper} {w0 : World} {d0 : D} {Q : Exit → Act → World → Prop} {K : List D → Prop} (hC : QC S l ci cs a0 frF fr0 w0) (hd0 : ∀ m sz rows, d0 = .sl (m + 1) sz rows → frF[cs]? = some d0)
    (hQ : ∀ fr a w, K fr → Rw S cs w0 w → FR (S.drop cs) w a (fr.map (unal cs .any)) → (fr0[cs]? = none → FR (S.drop cs) w a fr) → Q .normal a w) :
    ∀ (r pre : List Oper) (fr : List D), (∀ (k : Nat) (p : Oper), (pre ++ r)[k]? = some p → l[k]? = some p) → vcQ P T Z l ci cs d0 fr0 pre.length r fr K → ∃ ss, ∀ (fs : List (World → Prop)) (a : Act), QInv S l.toArray ci cs a0 fr0 pre fs a fr → ParW P l.toArray Q (ways S l.toArray ci cs) w0 pre.length r ss fs a
  | [], pre, fr, _, hs => ⟨[], fun fs a hI => fun w hx hf => by
      obtain ⟨h1, h2⟩ := hI.fr hC hx hf
      exact hQ fr a w hs hx h1 h2⟩
  | o :: r, pre, fr, hpre, hs => by
    have hpre' : ∀ (k : Nat) (p : Oper), pre[k]? = some p → l[k]? = some p := fun k p hk => hpre k p (by rw [List.getElem?_append_left (List.getElem?_eq_some_iff.1 hk).1]; exact hk)
    have ho : l[pre.length]? = some o := hpre _ o (by simp)
    have fin : ∀ {d : D}, (match o.dst with
      | none => vcQ P T Z l ci cs d0 fr0 (pre.length + 1) r fr K
      | some t => match fr[t]? with
        | some d1 => match d1.owns || Nat.beq t cs with
          | false => forceL (fr.set t d) fun fr => vcQ P T Z l ci cs d0 fr0 (pre.length + 1) r fr K
          | true => False
        | none => False) → NmOk fr0 cs d →
        (∀ (fs : List (World → Prop)) (a : Act), QInv S l.toArray ci cs a0 fr0 pre fs a fr → ∀ w, (ways S l.toArray ci cs).sees pre.length w0 w → (∀ e ∈ o.after.toList, Region.binds .any e = true → (fs.getD e.on (fun _ => True)) w) → StepG P l.toArray Q ((ways S l.toArray ci cs).does pre.length) o (factSpec (sg S l.toArray ci cs pre.length) a0 d) a w) →
        ∃ ss, ∀ (fs : List (World → Prop)) (a : Act), QInv S l.toArray ci cs a0 fr0 pre fs a fr → ParW P l.toArray Q (ways S l.toArray ci cs) w0 pre.length (o :: r) ss fs a := by
      intro d hK hal hstep
      have rest : ∀ {fr' : List D}, ((o.dst = none ∧ fr' = fr) ∨ ∃ t d0, o.dst = some t ∧ fr[t]? = some d0 ∧ d0.owns = false ∧ t ≠ cs ∧ fr' = fr.set t d) → vcQ P T Z l ci cs d0 fr0 (pre.length + 1) r fr' K → ∃ ss, ∀ (fs : List (World → Prop)) (a : Act), QInv S l.toArray ci cs a0 fr0 pre fs a fr → ParW P l.toArray Q (ways S l.toArray ci cs) w0 pre.length (o :: r) ss fs a := by
        intro fr' hfr hv
        obtain ⟨ss, hss⟩ := vcQ_sound hT hC hd0 hQ r (pre ++ [o]) fr' (fun k p hk => hpre k p (by simpa using hk)) (by simpa using hv)
        refine ⟨factSpec (sg S l.toArray ci cs pre.length) a0 d :: ss, fun fs a hI => ⟨fun w hx hf => hstep fs a hI w hx hf, fun hlate u w w' hx hf => ?_, fun u => ?_⟩⟩
        · have e : sg S l.toArray ci cs pre.length = S := by
            unfold sg
            have hl : lateOf l.toArray ci pre.length = false := hlate
            rw [hl]
            rfl
          simp only [factSpec] at hf ⊢
          rw [e] at hf ⊢
          have hx' : Rw S cs w w' := hx
          refine ⟨hx'.wf hf.1, ?_⟩
          have h2 := hf.2
          cases d with
          | al u => exact h2
          | ref u off => exact h2
          | _ => exact h2.trans (hx'.to (.inl rfl))
        · have := hss _ _ (hI.step (v := u.2.2) hal hfr)
          rw [List.length_append] at this
          exact this
      split at hK
      · rename_i hn
        exact rest (.inl ⟨hn, rfl⟩) hK
      · rename_i t ht
        split at hK
        · rename_i d1 h0
          split at hK
          · rename_i hd1
            simp only [Bool.or_eq_false_iff] at hd1
            rw [forceL_eq] at hK
            exact rest (.inr ⟨t, d1, ht, h0, hd1.1, fun e => by subst e; simp at hd1, rfl⟩) hK
          · exact hK.elim
        · exact hK.elim
    unfold vcQ at hs
    simp only at hs
    split at hs
    · rename_i hic
      have hne : pre.length ≠ ci := fun e => by rw [e] at hic; simp at hic
      obtain ⟨d, hK, hal, hstep⟩ := stepQ_sound hT hC hpre' ho (Q := Q) hs
      refine fin hK hal fun fs a hI w hx hf => ?_
      have e1 : (ways S l.toArray ci cs).sees pre.length = Rw S cs := if_neg hne
      have e2 : (ways S l.toArray ci cs).does pre.length = Ext := if_neg hne
      rw [e1] at hx
      rw [e2]
      exact hstep fs a hI w hx hf
    · rename_i hic
      have he := Nat.eq_of_beq_eq_true hic
      obtain ⟨d, hK, hal, hstep⟩ := writeQ_sound hC hpre' ho he hd0 (Q := Q) hs
      refine fin hK hal fun fs a hI w hx hf => ?_
      have e1 : (ways S l.toArray ci cs).sees pre.length = Ext := if_pos he
      have e2 : (ways S l.toArray ci cs).does pre.length = Rw S cs := if_pos he
      have e3 : sg S l.toArray ci cs pre.length = S.drop cs := by
        unfold sg lateOf
        rw [he]
        simp
      rw [e1] at hx
      rw [e2, e3]
      exact hstep fs a hI w hx hf
end
end Go.Proofs.YtdopillligfdiaaDoor
