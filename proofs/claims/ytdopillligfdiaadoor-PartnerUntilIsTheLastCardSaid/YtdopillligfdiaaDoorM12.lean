/- Regions whose order Go leaves open: whatever the order, the data are the same. -/
import Derived.Test.YtdopillligfdiaaDoorM11
import Derived.Test.YtdopillligfdiaaDoorTR
namespace Go.Proofs.YtdopillligfdiaaDoor
set_option linter.unusedSimpArgs false
set_option linter.unusedVariables false
open Go.RowKit

def frz1d : D → D
  | .sl _ sz rows => .sl 0 sz rows
  | .mp _ _ => .any
  | d => d
def D.frz : D → D
  | .sl _ sz rows => .sl 0 sz rows
  | .mp _ _ => .any
  | .agg cs => .agg (cs.map frz1d)
  | .tup ds => .tup (ds.map fun d => match d with
    | .agg cs => .agg (cs.map frz1d)
    | d => frz1d d)
  | d => d
def frzQ (d : D) : D := match d.passes with
  | true => d
  | false => d.frz
/-- May it stand among operations whose order is open? -/
def okQ (d : D) : Bool := match d.passes with
  | true => true
  | false => match d with
    | .tup ds => ds.all fun d => match d with
      | .agg cs => cs.all D.calm1
      | d => d.calm1
    | .agg cs => cs.all D.calm1
    | .sl _ _ _ => true
    | _ => false
def evalQ (fr0 fr : List D) : Operand → D
  | .tmp t => match fr[t]? with
    | some (.al u) => (fr0[u]?).getD .any
    | some d => d
    | none => .any
  | x => evalD [] x
def stepQ (P : Program) (T : Nat → Option TI) (Z : Nat → Option (List Value)) (all : List Oper) (cs : Nat) (fr0 fr : List D) (o : Oper) (K : D → Prop) : Prop :=
  match o.guard with
  | none => match o.op with
    | .move (.tmp u) => match Nat.beq u cs with
      | true => match fr0[u]? with
        | some _ => K (.al u)
        | none => False
      | false => match fr[u]? with
        | some (.sl (_ + 1) _ _) => match fr0[u]? with
          | some (.sl (_ + 1) _ _) => K (.al u)
          | _ => False
        | some (.al u') => match Nat.beq u' cs with
          | true => match fr0[u']? with
            | some _ => K (.al u')
            | none => False
          | false => match fr0[u']? with
            | some (.sl (_ + 1) _ _) => K (.al u')
            | _ => False
        | _ => opD P T Z (evalQ fr0 fr) o.op fun s d => andO s (match okQ d with
          | true => force (frzQ d) K
          | false => False)
    | .pick c x y => pickD (evalQ fr0 fr c) x y (evalQ fr0 fr) fun s d => andO s (force d K)
    | .fieldAddr ty (.tmp u) i => match fr0[u]? with
      | some (.obj _) => match T ty with
        | some (.st _ fl _) => match fl[i]? with
          | some (off, _ + 1, _) => K (.ref u off)
          | _ => False
        | _ => False
      | _ => opD P T Z (evalQ fr0 fr) o.op fun s d => andO s (match okQ d with
        | true => force (frzQ d) K
        | false => False)
    | _ => opD P T Z (evalQ fr0 fr) o.op fun s d => andO s (match okQ d with
      | true => force (frzQ d) K
      | false => False)
  | some (j, want) => match condOf all fr j want with
    | some c => match o.op with
      | .pick cc x y => pickD (strip (evalQ fr0 fr cc)) x y (evalQ fr0 fr) fun s d => andO (under c (gds (evalQ fr0 fr) [cc]) s) (K (.gd c d))
      | op => opD P T Z (fun x => strip (evalQ fr0 fr x)) op fun s d => andO (under c (gds (evalQ fr0 fr) op.operands.toList) s) (match d.passes with
        | true => force (.gd c d) K
        | false => False)
    | none => False
/-- The one that is handed what the slot owns. -/
def writeQ (P : Program) (cs : Nat) (d0 : D) (fr0 fr : List D) (o : Oper) (K : D → Prop) : Prop :=
  match o.guard with
  | some _ => False
  | none => match o.op with
    | .call c => match c.callee with
      | .value (.func f) => match c.args.toList with
        | .tmp t :: xs => match Nat.beq t cs || (match fr[t]? with | some (.al u) => Nat.beq u cs | _ => false) with
          | true => match d0 with
            | .sl (m + 1) sz rows => CallO fun d out => SideD (GivesO P f (.sl (m + 1) sz rows) (xs.map (evalQ fr0 fr)) d out) (match okQ d with
              | true => force (frzQ d) K
              | false => False)
            | _ => False
          | false => False
        | _ => False
      | _ => False
    | _ => False
def vcQ (P : Program) (T : Nat → Option TI) (Z : Nat → Option (List Value)) (all : List Oper) (k cs : Nat) (d0 : D) (fr0 : List D) : Nat → List Oper → List D → (List D → Prop) → Prop
  | _, [], fr, K => K fr
  | i, o :: r, fr, K =>
    let K' := fun d => match o.dst with
      | none => vcQ P T Z all k cs d0 fr0 (i + 1) r fr K
      | some t => match fr[t]? with
        | some d1 => match d1.owns || Nat.beq t cs with
          | false => forceL (fr.set t d) fun fr => vcQ P T Z all k cs d0 fr0 (i + 1) r fr K
          | true => False
        | none => False
    match Nat.beq i k with
    | false => stepQ P T Z all cs fr0 fr o K'
    | true => writeQ P cs d0 fr0 fr o K'

section
variable {P : Program} {T : Nat → Option TI} {Z : Nat → Option (List Value)}
theorem fresh_place (S : Sig) (w : World) (hw : WF S w) : ∃ p : Place, p.r ≠ 0 ∧ p.path ≠ [] ∧ ∀ b x, S.own b = some x → ¬ x.1.under p := by
  have key : ∀ n, ∃ N, ∀ b x, b < n → S.own b = some x → ∀ y ∈ x.1.path, y < N := by
    intro n
    induction n with
    | zero => exact ⟨0, fun b x hb => by omega⟩
    | succ n ih =>
      obtain ⟨N, hN⟩ := ih
      have hl : ∀ l : List Nat, ∃ M, ∀ y ∈ l, y < M := by
        intro l
        induction l with
        | nil => exact ⟨0, fun y hy => by cases hy⟩
        | cons x l ih =>
          obtain ⟨M, hM⟩ := ih
          exact ⟨max M (x + 1), fun y hy => by
            rcases List.mem_cons.1 hy with rfl | hy
            · omega
            · have := hM y hy; omega⟩
      cases ho : S.own n with
      | none => exact ⟨N, fun b x hb hx => by
          by_cases hbn : b = n
          · subst hbn; rw [ho] at hx; cases hx
          · exact hN b x (by omega) hx⟩
      | some z =>
        obtain ⟨M, hM⟩ := hl z.1.path
        exact ⟨max N M, fun b x hb hx y hy => by
          by_cases hbn : b = n
          · subst hbn; rw [ho] at hx; cases hx; have := hM y hy; omega
          · have := hN b x (by omega) hx y hy; omega⟩
  obtain ⟨N, hN⟩ := key w.heap.size
  refine ⟨⟨2, [N]⟩, by simp, by simp, fun b x hx hu => ?_⟩
  obtain ⟨_, l, hl⟩ := hu
  have := hN b x (hw b x hx) hx N (by rw [hl]; simp)
  omega
theorem Fz.frz1 {lim : Nat → Option Nat} {w : World} {v : Value} {d : D} (h : Fz lim w v d) : Fz lim w v (frz1d d) := by
  cases d with
  | sl m sz rows =>
    cases h with
    | slNil => exact .slNil 0 sz
    | slE => exact .slE _ sz
    | sl cv a1 a2 a3 a4 a5 => exact .sl cv a1 a2 a3 a4 a5
  | mp es => exact .any _
  | _ => exact h
/-- What was made meanwhile is nobody's. -/
theorem unown {S S' : Sig} {w w' : World} (hw : WF S w) (hp : PT S w S' w') {p : Place} (hf : ∀ b x, S.own b = some x → ¬ x.1.under p) {v : Value} {d : D} (hr : Rep S' w' p v d) (ho : okQ d = true) : Fz S.lim w' v (frzQ d) := by
  have hlim : ∀ {v : Value} {d : D}, Fz S'.lim w' v d → Fz S.lim w' v d := fun h => h.mono fun b o v hc hk s hs => by
    by_cases hb : b < w.heap.size
    · refine hk s ?_
      simp only [Sig.lim, hp.own b hb]
      exact hs
    · exfalso
      simp only [Sig.lim] at hs
      cases hx : S.own b with
      | none => rw [hx] at hs; cases hs
      | some x => exact hb (hw b x hx)
  have one : ∀ {q : Place} {v : Value} {d : D}, q.under p → Rep S' w' q v d → d.calm1 = true → Fz S.lim w' v (frz1d d) := by
    intro q v d hq hr hc
    cases hr with
    | fz h => exact hlim h.frz1
    | @own _ b cap m sz rows cur e g =>
      have hb : ¬ b < w.heap.size := fun hb => hf b _ ((hp.own b hb).symm.trans g.own) hq
      have hnone : S.own b = none := by
        cases hx : S.own b with
        | none => rfl
        | some x => exact absurd (hw b x hx) hb
      exact g.fz2 hlim rfl fun k _ s hs => by simp [Sig.lim, hnone] at hs
    | mp => exact .any _
    | obj => cases hc
    | ref => cases hc
    | gref => cases hc
    | fn => cases hc
    | agg => cases hc
    | tup => cases hc
  have agg : ∀ {q : Place} {v : Value} {cs : List D}, q.under p → Rep S' w' q v (.agg cs) → cs.all D.calm1 = true → Fz S.lim w' v (.agg (cs.map frz1d)) := by
    intro q v cs hq hr hc
    obtain ⟨vs, rfl, h1, h2, h3⟩ := hr.agg_inv
    refine .agg vs (by simp [h1]) h2 fun j d u hd hu => ?_
    rw [List.getElem?_map] at hd
    cases hcj : cs[j]? with
    | none => rw [hcj] at hd; cases hd
    | some e =>
      rw [hcj] at hd
      cases hd
      exact one (Place.under_trans (Place.at_under _ j) hq) (h3 j e u hcj hu) (List.all_eq_true.1 hc e (List.mem_of_getElem? hcj))
  unfold frzQ
  split
  · rename_i hpass
    exact hlim (hr.passes hpass)
  · rename_i hpass
    unfold okQ at ho
    rw [hpass] at ho
    simp only at ho
    split at ho
    · rename_i ds
      obtain ⟨vs, rfl, h1, h3⟩ := hr.tup_inv
      refine .tup vs (by simp [h1]) fun j d u hd hu => ?_
      rw [List.getElem?_map] at hd
      cases hcj : ds[j]? with
      | none => rw [hcj] at hd; cases hd
      | some e =>
        rw [hcj] at hd
        cases hd
        have hc1 := List.all_eq_true.1 ho e (List.mem_of_getElem? hcj)
        have h4 := h3 j e u hcj hu
        have hu' := Place.at_under p j
        cases e with
        | agg cs => exact agg hu' h4 hc1
        | _ => exact one hu' h4 hc1
    · exact agg (Place.under_refl p) hr ho
    · exact one (Place.under_refl p) hr rfl
    · cases ho
/-- What is left when the slot's things are nobody's. -/
def Sig.drop (S : Sig) (u : Nat) : Sig := ⟨fun b => match mine u (S.own b) with
  | true => none
  | false => S.own b, S.loc⟩
theorem drop_own {S : Sig} {u b : Nat} (h : mine u (S.own b) = false) : (S.drop u).own b = S.own b := by
  simp only [Sig.drop, h]
theorem drop_some {S : Sig} {u b : Nat} {x : Place × Nat} (h : (S.drop u).own b = some x) : S.own b = some x ∧ mine u (S.own b) = false := by
  simp only [Sig.drop] at h
  split at h
  · cases h
  · exact ⟨h, by assumption⟩
theorem drop_lim {S : Sig} {u : Nat} {w : World} {v : Value} {d : D} (h : Fz S.lim w v d) : Fz (S.drop u).lim w v d := h.mono fun b o v _ hk s hs => by
  simp only [Sig.lim] at hs
  cases hx : (S.drop u).own b with
  | none => rw [hx] at hs; cases hs
  | some x =>
    rw [hx] at hs
    exact hk s (by simp only [Sig.lim]; rw [(drop_some hx).1]; exact hs)
theorem drop_wf {S : Sig} {u : Nat} {w : World} (h : WF S w) : WF (S.drop u) w := fun b x hx => h b x (drop_some hx).1
/-- What a call left that was handed the slot's things. -/
theorem unhand {S S' : Sig} {w w' : World} {u : Nat} (hw : WF S w) (ht : Trans (S.hand u) w S' w') {v : Value} {d : D} (hr : Rep S' w' .res v d) (ho : okQ d = true) : Fz (S.drop u).lim w' v (frzQ d) := by
  have hold : ∀ b x, (S.drop u).own b = some x → S'.own b = some (.dead, x.2) := fun b x hx => by
    obtain ⟨h1, h2⟩ := drop_some hx
    have := (hand_old ht (hw b x h1) h2).2
    rw [this, h1]
    rfl
  have hlim : ∀ {v : Value} {d : D}, Fz S'.lim w' v d → Fz (S.drop u).lim w' v d := fun h => h.mono fun b o v hc hk s hs => by
    simp only [Sig.lim] at hs
    cases hx : (S.drop u).own b with
    | none => rw [hx] at hs; cases hs
    | some x =>
      rw [hx] at hs
      refine hk s ?_
      simp only [Sig.lim]
      rw [hold b x hx]
      exact hs
  have one : ∀ {q : Place} {v : Value} {d : D}, q.r = 1 → Rep S' w' q v d → d.calm1 = true → Fz (S.drop u).lim w' v (frz1d d) := by
    intro q v d hq hr hc
    cases hr with
    | fz h => exact hlim h.frz1
    | @own _ b cap m sz rows cur e g =>
      have hnone : (S.drop u).own b = none := by
        cases hx : (S.drop u).own b with
        | none => rfl
        | some x =>
          have h1 := hold b x hx
          rw [g.own] at h1
          have h2 := congrArg Prod.fst (Option.some.inj h1)
          simp only at h2
          rw [h2] at hq
          cases hq
      exact g.fz2 hlim rfl fun k _ s hs => by simp [Sig.lim, hnone] at hs
    | mp => exact .any _
    | obj => cases hc
    | ref => cases hc
    | gref => cases hc
    | fn => cases hc
    | agg => cases hc
    | tup => cases hc
  have agg : ∀ {q : Place} {v : Value} {cs : List D}, q.r = 1 → Rep S' w' q v (.agg cs) → cs.all D.calm1 = true → Fz (S.drop u).lim w' v (.agg (cs.map frz1d)) := by
    intro q v cs hq hr hc
    obtain ⟨vs, rfl, h1, h2, h3⟩ := hr.agg_inv
    refine .agg vs (by simp [h1]) h2 fun j d u hd hu => ?_
    rw [List.getElem?_map] at hd
    cases hcj : cs[j]? with
    | none => rw [hcj] at hd; cases hd
    | some e =>
      rw [hcj] at hd
      cases hd
      exact one (q := q.at j) hq (h3 j e u hcj hu) (List.all_eq_true.1 hc e (List.mem_of_getElem? hcj))
  unfold frzQ
  split
  · rename_i hpass
    exact hlim (hr.passes hpass)
  · rename_i hpass
    unfold okQ at ho
    rw [hpass] at ho
    simp only at ho
    split at ho
    · rename_i ds
      obtain ⟨vs, rfl, h1, h3⟩ := hr.tup_inv
      refine .tup vs (by simp [h1]) fun j d u hd hu => ?_
      rw [List.getElem?_map] at hd
      cases hcj : ds[j]? with
      | none => rw [hcj] at hd; cases hd
      | some e =>
        rw [hcj] at hd
        cases hd
        have hc1 := List.all_eq_true.1 ho e (List.mem_of_getElem? hcj)
        have h4 := h3 j e u hcj hu
        cases e with
        | agg cs => exact agg (q := Place.res.at j) rfl h4 hc1
        | _ => exact one (q := Place.res.at j) rfl h4 hc1
    · exact agg rfl hr ho
    · exact one rfl hr rfl
    · cases ho
end
end Go.Proofs.YtdopillligfdiaaDoor
