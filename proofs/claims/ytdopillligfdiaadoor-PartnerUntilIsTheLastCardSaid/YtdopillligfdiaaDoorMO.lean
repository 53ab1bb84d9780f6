/- Objects of a slot: variables in memory that are written. -/
import Derived.Test.YtdopillligfdiaaDoorM9
namespace Go.Proofs.YtdopillligfdiaaDoor
set_option linter.unusedSimpArgs false
set_option linter.unusedVariables false
open Go.RowKit

def TI.cells : TI → Nat
  | .st n _ _ => n
  | _ => 1
theorem TFact.sz {P : Program} {t : Nat} {i : TI} (h : TFact P t i) : (P.info? t).map (·.size) = some i.cells := by
  cases i with
  | int k => exact h.2.sz
  | str => exact h.2.sz
  | bool => exact h.2.sz
  | one => exact (show TOne P t from h).sz
  | sl e sz b zc => exact h.2.2.1.sz
  | mp k e kd z => exact h.2.2.sz
  | st n fl ks => exact h.1.sz
section
variable {P : Program} {Q : Exit → Act → World → Prop} {K : Act → World → Prop} {a : Act} {w : World} {dst : Option Tmp} {ty : TypeId} {pos : String} {after : Array Edge} {guard : Option (Nat × Bool)}
theorem r_store {t n b o : Nat} {x y : Operand} (hs : (P.info? t).map (·.size) = some n) (hx : a.eval x = .pointer (some ⟨b, o, none⟩)) {us : List Value} (hy : (a.eval y).cells.toList = us) (hn : us.length = n) (h1 : ∀ u : Value, u ∈ us → u.oneCell' = true) {cur : Array Value} {e : TypeId}
    (hg : w.heap[b]? = some (.cells cur e (0, 0))) (hl : o + n ≤ cur.size) (hk : K (a.put dst undef) (w.setRow b (cur.toList.take o ++ us ++ cur.toList.drop (o + n)).toArray)) : (Oper.mk dst (.store t x y) ty pos after guard).wp P a w K Q := by
  have hsz : (a.eval y).cells.size = n := by rw [← hn, ← hy]; simp
  have hst := run_storeCells_at P b o e us 0 cur w hg (by omega) h1
  simp only [Nat.add_zero] at hst
  have hv : (storeVar t ⟨b, o, none⟩ (a.eval y)).run P w = .ok () (w.setRow b (cur.toList.take o ++ us ++ cur.toList.drop (o + n)).toArray) := by
    unfold storeVar
    rw [Sem.run_bind, run_sizeOf_of hs, Result.andThen_ok, if_neg (by rw [hsz]; simp), hy, hst, hn]
  unfold Oper.wp execOp
  simp only [hx, Instr.storeAt, Instr.sureAddr, Sem.run_bind, Sem.run_pure, Result.andThen_ok, hv]
  exact hk
end
theorem Rep.obj_inv {S : Sig} {w : World} {u : Nat} {v : Value} {cs : List D} (h : Rep S w (.slot u) v (.obj cs)) : ∃ (b : Nat) (cur : Array Value) (e : TypeId), v = .pointer (some ⟨b, 0, none⟩) ∧ S.own b = some (.slot u, 0) ∧ S.loc (u + 2) = b ∧ w.heap[b]? = some (.cells cur e (0, 0)) ∧ cs.length = cur.size ∧
    (∀ (i : Nat) (v : Value), cur[i]? = some v → v.oneCell' = true) ∧ ∀ (i : Nat) (d : D) (v : Value), cs[i]? = some d → cur[i]? = some v → Rep S w ⟨u + 2, [i]⟩ v d := by
  cases h with
  | fz h => cases h
  | obj hb hp hl hh hs h1 ih => exact ⟨_, _, _, rfl, hb, hl, hh, hs, h1, ih⟩
/-- Cells of an object are written. -/
theorem FR.storeObj {S : Sig} {w : World} {a : Act} {fr : List D} (h : FR S w a fr) {u off : Nat} {cs vs : List D} {us : List Value} (hd : fr[u]? = some (.obj cs)) (hc : CR S.lim w us vs) (hl : off + vs.length ≤ cs.length) :
    ∃ (b : Nat) (cur : Array Value) (e : TypeId), S.own b = some (.slot u, 0) ∧ S.loc (u + 2) = b ∧ w.heap[b]? = some (.cells cur e (0, 0)) ∧ cs.length = cur.size ∧
      Trans S w S (w.setRow b (cur.toList.take off ++ us ++ cur.toList.drop (off + vs.length)).toArray) ∧ FR S (w.setRow b (cur.toList.take off ++ us ++ cur.toList.drop (off + vs.length)).toArray) a (fr.set u (.obj (cs.take off ++ vs ++ cs.drop (off + vs.length)))) := by
  obtain ⟨v, hv, hsl⟩ := h.at hd
  obtain ⟨b, cur, e, rfl, hb, hloc, hh, hsz, h1, ih⟩ := hsl.1.obj_inv
  refine ⟨b, cur, e, hb, hloc, hh, hsz, ?_⟩
  generalize hCUR : (cur.toList.take off ++ us ++ cur.toList.drop (off + vs.length)).toArray = CUR
  have hus := hc.len
  have hCl : CUR.toList = cur.toList.take off ++ us ++ cur.toList.drop (off + vs.length) := by rw [← hCUR]
  have hCs : CUR.size = cur.size := by
    have : CUR.toList.length = cur.size := by
      rw [hCl]
      simp only [List.length_append, List.length_take, List.length_drop, Array.length_toList]
      omega
    simpa using this
  have hw' : (w.setRow b CUR).heap[b]? = some (.cells CUR e (0, 0)) := setRow_heap w b cur CUR e (0, 0) hh
  have hother : ∀ k, k ≠ b → (w.setRow b CUR).heap[k]? = w.heap[k]? := fun k hk => setRow_other w b k CUR hk
  have htr : Trans S w S (w.setRow b CUR) := by
    refine ⟨rfl, rfl, rfl, by simp, fun k hk hn => ⟨hother k (fun e => by subst e; rw [hb] at hn; cases hn), hn⟩, fun k p l hk hs hp => ⟨hother k (fun e => by subst e; rw [hb] at hs; cases hs; simp [Place.slot] at hp), hs⟩, fun k p l hk hs => ⟨?_, fun x hx => by rw [hs] at hx; cases hx; exact Nat.le_refl _⟩, rfl⟩
    by_cases hkb : k = b
    · subst hkb
      rw [hb] at hs
      cases hs
      intro cur1 e1 fz1 h2
      rw [hh] at h2
      cases h2
      exact ⟨CUR, hw', hCs, fun off ho => by omega⟩
    · exact Keeps.of_eq (hother k hkb)
  have hwf : WF S (w.setRow b CUR) := fun k x hk => by
    have : (w.setRow b CUR).heap.size = w.heap.size := by simp
    rw [this]
    exact h.wf k x hk
  have keep : ∀ {p : Place} {v : Value} {d : D}, (¬ (Place.slot u).under p) → Rep S w p v d → Rep S (w.setRow b CUR) p v d := fun {p v d} hp hr =>
    hr.trans h.wf htr rfl (fun k q l hs hu => ⟨hother k (fun e => by subst e; rw [hb] at hs; cases hs; exact hp hu), hs⟩) (fun _ => rfl) fun t _ ht => ⟨rfl, ht⟩
  have hlt : u < fr.length := (List.getElem?_eq_some_iff.1 hd).1
  have hrk : ∀ e, RefOk fr e → RefOk (fr.set u (.obj (cs.take off ++ vs ++ cs.drop (off + vs.length)))) e := fun e he x hx => by
    obtain ⟨cs', hc'⟩ := he x hx
    by_cases hxu : u = x
    · subst hxu; exact ⟨_, List.getElem?_set_self hlt⟩
    · exact ⟨cs', by rw [List.getElem?_set_ne hxu]; exact hc'⟩
  have hnew : ∀ (i : Nat) (d : D), (cs.take off ++ vs ++ cs.drop (off + vs.length))[i]? = some d → (i < off ∧ cs[i]? = some d) ∨ (off ≤ i ∧ i < off + vs.length ∧ vs[i - off]? = some d) ∨ (off + vs.length ≤ i ∧ cs[i]? = some d) := fun i d hi => by
    by_cases h1 : i < off
    · rw [List.append_assoc, List.getElem?_append_left (by simp; omega), List.getElem?_take, if_pos h1] at hi
      exact .inl ⟨h1, hi⟩
    · by_cases h2 : i < off + vs.length
      · rw [List.append_assoc, List.getElem?_append_right (by simp; omega), List.getElem?_append_left (by simp; omega)] at hi
        refine .inr (.inl ⟨by omega, h2, ?_⟩)
        rw [← hi]; congr 1; simp; omega
      · rw [List.getElem?_append_right (by simp; omega), List.getElem?_drop] at hi
        refine .inr (.inr ⟨by omega, ?_⟩)
        rw [← hi]; congr 1; simp; omega
  have hcell : ∀ (i : Nat), CUR[i]? = if i < off then cur[i]? else if i < off + vs.length then us[i - off]? else cur[i]? := fun i => by
    rw [← Array.getElem?_toList, hCl]
    by_cases h1 : i < off
    · rw [if_pos h1, List.append_assoc, List.getElem?_append_left (by simp; omega), List.getElem?_take, if_pos h1, Array.getElem?_toList]
    · rw [if_neg h1]
      by_cases h2 : i < off + vs.length
      · rw [if_pos h2, List.append_assoc, List.getElem?_append_right (by simp; omega), List.getElem?_append_left (by simp; omega)]
        congr 1; simp; omega
      · rw [if_neg h2, List.getElem?_append_right (by simp; omega), List.getElem?_drop, Array.getElem?_toList]
        congr 1; simp; omega
  refine ⟨htr, hwf, by simp [h.size], h.defers, fun i d v' hi hv' => ?_⟩
  by_cases hiu : i = u
  · subst hiu
    rw [List.getElem?_set_self hlt] at hi
    rw [hv] at hv'
    cases hi; cases hv'
    refine SlotRep.of (.obj hb rfl hloc hw' (by simp; omega) (fun j x hj => ?_) fun j d x hj hx => ?_) (hrk _ fun t ht => ?_)
    · rw [hcell] at hj
      split at hj
      · exact h1 j x hj
      · split at hj
        · exact hc.one x (List.mem_of_getElem? hj)
        · exact h1 j x hj
    · rw [hcell] at hx
      rcases hnew j d hj with ⟨q1, q2⟩ | ⟨q1, q2, q3⟩ | ⟨q1, q2⟩
      · rw [if_pos q1] at hx
        exact keep (fun hu => by obtain ⟨_, l, hl⟩ := hu; simp [Place.slot] at hl) (ih j d x q2 hx)
      · rw [if_neg (by omega), if_pos q2] at hx
        exact .fz ((hc.fz _ d x q3 hx).trans htr)
      · rw [if_neg (by omega), if_neg (by omega)] at hx
        exact keep (fun hu => by obtain ⟨_, l, hl⟩ := hu; simp [Place.slot] at hl) (ih j d x q2 hx)
    · cases ht with
      | obj hj hm =>
        rcases hnew _ _ hj with ⟨_, q2⟩ | ⟨q1, q2, q3⟩ | ⟨_, q2⟩
        · exact hsl.2 t (.obj q2 hm)
        · exact absurd hm (hc.fz _ _ _ q3 (List.getElem?_eq_getElem (lt_of_len hus q3))).men
        · exact hsl.2 t (.obj q2 hm)
  · rw [List.getElem?_set_ne (Ne.symm hiu)] at hi
    have hs := h.slot i d v' hi hv'
    cases d with
    | al x =>
      obtain ⟨g1, d', g2, g3, g4⟩ := hs
      by_cases hxu : x = u
      · subst hxu
        exact ⟨g1, _, List.getElem?_set_self hlt, rfl, g4⟩
      · exact ⟨g1, d', by rw [List.getElem?_set_ne (Ne.symm hxu)]; exact g2, g3, g4⟩
    | _ => exact ⟨keep (fun hu => hiu (by have := hu.1; simp [Place.slot] at this; omega)) hs.1, hrk _ hs.2⟩
/-- A new object. -/
theorem FR.allocObj {S : Sig} {w w' : World} {a : Act} {fr : List D} (h : FR S w a fr) {t g : Nat} {d0 : D} {cs : List D} {us : List Value} {ty : TypeId} (ht0 : t ≠ 0) (h0 : fr[t]? = some d0) (hn : d0.owns = false) (hb : Blk w' g ty us.toArray) (hx : Ext w w') (hg : g = w.heap.size) (hc : CR S.lim w us cs) :
    ∃ S', Trans S w S' w' ∧ FR S' w' (a.put (some t) (.pointer (some ⟨g, 0, none⟩))) (fr.set t (.obj cs)) := by
  let S' : Sig := ⟨fun b => if b = g then some (.slot t, 0) else S.own b, fun r => if r = t + 2 then g else S.loc r⟩
  have hold : ∀ b, b < w.heap.size → S'.own b = S.own b := fun b hb => if_neg (by omega)
  have hwf : WF S' w' := fun b x hbx => by
    by_cases hbg : b = g
    · subst hbg; exact hb.lt
    · have : S.own b = some x := by simpa [S', hbg] using hbx
      exact Nat.lt_of_lt_of_le (h.wf b x this) hx.sizeOf
  have htr : Trans S w S' w' := by
    refine ⟨hx.os, hx.tape, hx.output, hx.sizeOf, fun b hb hn => ⟨hx.block hb, by rw [hold b hb]; exact hn⟩, fun b p l hb hs _ => ⟨hx.block hb, by rw [hold b hb]; exact hs⟩, fun b p l hb hs => ⟨Keeps.of_eq (hx.block hb), fun x hx' => ?_⟩, if_neg (by omega)⟩
    rw [hold b hb, hs] at hx'
    cases hx'
    exact Nat.le_refl _
  have hlt : t < fr.length := (List.getElem?_eq_some_iff.1 h0).1
  have hrk : ∀ e, RefOk fr e → RefOk (fr.set t (.obj cs)) e := fun e he x hx => by
    obtain ⟨cs', hc'⟩ := he x hx
    by_cases hxu : t = x
    · subst hxu; exact ⟨_, List.getElem?_set_self hlt⟩
    · exact ⟨cs', by rw [List.getElem?_set_ne hxu]; exact hc'⟩
  refine ⟨S', htr, hwf, by simp [Act.put, h.size], by simp [Act.put, h.defers], fun i d v hi hv => ?_⟩
  by_cases hit : i = t
  · subst hit
    rw [List.getElem?_set_self hlt] at hi
    rw [put_tmps_eq (by rw [h.size]; exact hlt)] at hv
    cases hi; cases hv
    refine SlotRep.of (.obj (by simp [S', Place.slot]) rfl (by simp [S']) hb (by simpa using hc.len.symm) (fun j x hj => hc.one x (by
      have := Array.mem_of_getElem? hj
      simpa using this)) fun j d x hj hx' => .fz ((hc.fz j d x hj (by simpa using hx')).trans htr)) fun u hu => ?_
    cases hu with
    | obj hj hm =>
      exact ((hc.fz _ _ _ hj (List.getElem?_eq_getElem (lt_of_len hc.len hj))).men hm).elim
  · rw [List.getElem?_set_ne (Ne.symm hit)] at hi
    rw [put_tmps_ne hit] at hv
    have hs := h.slot i d v hi hv
    have keep : ∀ {e : D}, Rep S w (.slot i) v e → RefOk fr e → Rep S' w' (.slot i) v e := fun {e} hr hf =>
      hr.trans h.wf htr (by simp [S']) (fun k q l hs hu => ⟨hx.block (h.wf k _ hs), by rw [hold k (h.wf k _ hs)]; exact hs⟩) (fun _ => if_neg (by simp only [Place.slot]; omega)) fun x hm ho => by
        obtain ⟨cs', hc'⟩ := hf x hm
        have hxt : x ≠ t := fun e => by subst e; rw [h0] at hc'; cases hc'; cases hn
        have e1 : S'.loc (x + 2) = S.loc (x + 2) := if_neg (by omega)
        exact ⟨e1, by rw [hold _ (h.wf _ _ ho)]; exact ho⟩
    cases d with
    | al x =>
      obtain ⟨g1, d', g2, g3, g4⟩ := hs
      have hxt : x ≠ t := fun e => by subst e; rw [h0] at g2; cases g2; rw [hn] at g3; cases g3
      exact ⟨by rw [put_tmps_ne hxt]; exact g1, d', by rw [List.getElem?_set_ne (Ne.symm hxt)]; exact g2, g3, g4⟩
    | _ => exact ⟨keep hs.1 hs.2, hrk _ hs.2⟩
/-- The address of a cell of an object. -/
def objAt (fr : List D) : Operand → Option (Nat × Nat)
  | .tmp t => match fr[t]? with
    | some (.obj _) => some (t, 0)
    | some (.ref u off) => some (u, off)
    | _ => none
  | _ => none
theorem FR.objAt {S : Sig} {w : World} {a : Act} {fr : List D} (h : FR S w a fr) {x : Operand} {u off : Nat} (hx : Go.Proofs.YtdopillligfdiaaDoor.objAt fr x = some (u, off)) : ∃ cs, fr[u]? = some (.obj cs) ∧ a.eval x = .pointer (some ⟨S.loc (u + 2), off, none⟩) := by
  unfold Go.Proofs.YtdopillligfdiaaDoor.objAt at hx
  split at hx
  · rename_i t
    have ev : ∀ v, a.tmps[t]? = some v → a.eval (.tmp t) = v := fun v hv => by simp [Act.eval, Array.getD_eq_getD_getElem?, hv]
    split at hx
    · rename_i cs hd
      cases hx
      obtain ⟨v, hv, hs⟩ := h.at hd
      obtain ⟨b, cur, e, rfl, hb, hloc, _⟩ := hs.1.obj_inv
      exact ⟨cs, hd, by rw [ev _ hv, hloc]⟩
    · rename_i hd
      cases hx
      obtain ⟨v, hv, hs⟩ := h.at hd
      obtain ⟨cs, hc⟩ := hs.2 u (.ref off)
      refine ⟨cs, hc, ?_⟩
      rw [ev v hv]
      have := hs.1
      cases this with
      | fz h => cases h
      | ref g => rfl
    · cases hx
  · cases hx
/-- What stands in an object. -/
theorem FR.loadObj {S : Sig} {w : World} {a : Act} {fr : List D} (h : FR S w a fr) {u : Nat} {cs : List D} (hd : fr[u]? = some (.obj cs)) : ∃ cv : Nat → Value, ∀ (i : Nat) (d : D), cs[i]? = some d → w.cell? ⟨S.loc (u + 2), i, none⟩ = some (cv i) ∧ (cv i).oneCell' = true ∧ Rep S w ⟨u + 2, [i]⟩ (cv i) d := by
  obtain ⟨v, hv, hs⟩ := h.at hd
  obtain ⟨b, cur, e, rfl, hb, hloc, hh, hsz, h1, ih⟩ := hs.1.obj_inv
  refine ⟨fun i => cur.getD i undef, fun i d hi => ?_⟩
  have hil : i < cur.size := by rw [← hsz]; exact (List.getElem?_eq_some_iff.1 hi).1
  have hc : cur[i]? = some (cur.getD i undef) := by simp [Array.getD_eq_getD_getElem?, hil]
  exact ⟨by rw [hloc, cell_of_row w b _ cur e (0, 0) hh]; exact hc, h1 i _ hc, ih i d _ hi hc⟩
/-- It does not lead to the object of this slot. -/
def safeB (i : Nat) : D → Bool
  | .ref u _ => !(Nat.beq u i)
  | .gref _ u _ => !(Nat.beq u i)
  | .obj cs => cs.all D.calm1
  | .al u => !(Nat.beq u i)
  | .gd _ _ => true
  | d => d.calm || d.passes
theorem D.passes_men {d : D} (h : d.passes = true) {t : Nat} : ¬ Men t d := by
  have one : ∀ {d : D}, d.one = true → ¬ Men t d := fun {d} h hm => by cases hm <;> cases h
  intro hm
  cases hm with
  | ref => cases h
  | gref => cases h
  | obj => cases h
  | tup => cases h
  | agg hd hm => exact one (List.all_eq_true.1 h _ (List.mem_of_getElem? hd)) hm
  | fn hd hm => exact one (List.all_eq_true.1 h _ (List.mem_of_getElem? hd)) hm
theorem safeB_men {i : Nat} {d : D} (h : safeB i d = true) : ¬ Men i d := by
  have two : ∀ {d : D}, (d.calm || d.passes) = true → ¬ Men i d := fun {d} h => by
    simp only [Bool.or_eq_true] at h
    rcases h with h | h
    · exact D.calm_men h
    · exact D.passes_men h
  cases d with
  | ref u o =>
    intro hm
    cases hm
    simp [safeB] at h
  | gref c u o =>
    intro hm
    cases hm
    simp [safeB] at h
  | obj cs =>
    intro hm
    cases hm with | obj hd hm => exact D.calm1_men (List.all_eq_true.1 h _ (List.mem_of_getElem? hd)) hm
  | al u => intro hm; cases hm
  | gd c d => intro hm; cases hm
  | _ => exact two h
/-- An object that nobody writes from now on. -/
theorem FR.freezeObj {S : Sig} {w : World} {a : Act} {fr : List D} (h : FR S w a fr) {u : Nat} {cs : List D} (hd : fr[u]? = some (.obj cs)) (ho : cs.all D.one = true) (hs : (fr.set u .any).all (safeB u) = true) : ∃ S', Trans S w S' w ∧ FR S' w a (fr.set u (.ptr cs)) := by
  obtain ⟨v, hv, hsl⟩ := h.at hd
  obtain ⟨b, cur, e, rfl, hb, hloc, hh, hsz, h1, ih⟩ := hsl.1.obj_inv
  have hbt : BT S w (S.set b none) w b := BT.ghost h.wf hb (by simp [Place.slot]) (fun y hy => by cases hy)
  have hlt : u < fr.length := (List.getElem?_eq_some_iff.1 hd).1
  have safe : ∀ (i : Nat) (d : D), i ≠ u → fr[i]? = some d → ¬ Men u d := fun i d hi hd' => by
    refine safeB_men (List.all_eq_true.1 hs d (List.mem_of_getElem? (i := i) ?_))
    rw [List.getElem?_set_ne (Ne.symm hi)]
    exact hd'
  refine ⟨_, hbt.tr, hbt.wf, by simp [h.size], h.defers, fun i d v' hi hv' => ?_⟩
  by_cases hiu : i = u
  · subst hiu
    rw [List.getElem?_set_self hlt] at hi
    rw [hv] at hv'
    cases hi; cases hv'
    refine SlotRep.of (.fz (.ptr (fun j => cur.getD j undef) (fun j d hj => ?_) fun j d hj => ?_)) fun t ht => by cases ht
    · have hjl : j < cur.size := by rw [← hsz]; exact (List.getElem?_eq_some_iff.1 hj).1
      have hc : cur[j]? = some (cur.getD j undef) := by simp [Array.getD_eq_getD_getElem?, hjl]
      exact ⟨by rw [Nat.zero_add, cell_of_row w b _ cur e (0, 0) hh]; exact hc, fun s hs => by simp [Sig.lim, S.set_at] at hs, h1 j _ hc⟩
    · have hjl : j < cur.size := by rw [← hsz]; exact (List.getElem?_eq_some_iff.1 hj).1
      have hc : cur[j]? = some (cur.getD j undef) := by simp [Array.getD_eq_getD_getElem?, hjl]
      exact (D.one_fz (ih j d _ hj hc) (List.all_eq_true.1 ho d (List.mem_of_getElem? hj))).trans hbt.tr
  · rw [List.getElem?_set_ne (Ne.symm hiu)] at hi
    have hsi := h.slot i d v' hi hv'
    cases d with
    | al x =>
      obtain ⟨g1, d', g2, g3, g4⟩ := hsi
      by_cases hxu : x = u
      · exfalso
        have := safe i _ hiu hi
        subst hxu
        have hsx := List.all_eq_true.1 hs (.al x) (List.mem_of_getElem? (i := i) (by rw [List.getElem?_set_ne (Ne.symm hiu)]; exact hi))
        simp [safeB] at hsx
      · exact ⟨g1, d', by rw [List.getElem?_set_ne (Ne.symm hxu)]; exact g2, g3, g4⟩
    | _ =>
      refine ⟨hsi.1.trans h.wf hbt.tr (by rw [hbt.loc]) (fun c q l hq hu => ?_) (fun _ => by rw [hbt.loc]) (fun t hm ht => ?_), fun t ht => ?_⟩
      · have hcb : c ≠ b := fun e => by
          subst e
          rw [hb] at hq
          cases hq
          have := hu.1
          simp only [Place.slot] at this
          omega
        exact ⟨rfl, by rw [S.set_ne _ hcb]; exact hq⟩
      · rw [hbt.loc]
        refine ⟨rfl, ?_⟩
        have htu : t ≠ u := fun e => safe i _ hiu hi (e ▸ hm)
        rw [S.set_ne _ (fun e => by rw [e, hb] at ht; cases ht; exact htu rfl)]
        exact ht
      · obtain ⟨cs', hc⟩ := hsi.2 t ht
        have htu : u ≠ t := fun e => safe i _ hiu hi (e ▸ ht)
        exact ⟨cs', by rw [List.getElem?_set_ne htu]; exact hc⟩
end Go.Proofs.YtdopillligfdiaaDoor
