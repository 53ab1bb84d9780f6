/- Functions: from their code on data to what they give. Small lemmas for walks on data. What a function gives that copies a slice. Parts of a text between bytes: plain, and strings.Split. -/
import Derived.Test.YtbphihljkbdfpaaGreatDoorZ5
import Derived.Lib.SplitLaws
import Derived.Lib.IndexBytes
import Derived.Lib.IndexLaws
namespace Go.Proofs.YtbphihljkbdfpaaGreatDoor
set_option linter.unusedSimpArgs false
set_option linter.unusedVariables false
open Go.RowKit

def slotOf : ResultVar → Nat
 | .tmp t => t
 | .cell t _ => t
/-- What a result variable holds. -/
def retD (T : Nat → Option TI) (fr : List D) : ResultVar → Option D
 | .tmp t => match fr[t]? with
  | some (.al _) => none
  | some (.alc _ _) => none
  | some (.el _ _ _ _ _) => none
  | some (.es _ _ _ _) => none
  | d => d
 | .cell t ty => match fr[t]? with
  | some (.obj cs) => match T ty with
   | some (.st n _ _) => match Nat.beq n cs.length with
    | true => some (.agg cs)
    | false => none
   | some _ => match cs with
    | [d] => match d.one with
     | true => some d
     | false => none
    | _ => none
   | none => none
  | _ => none
/-- What a result may be taken for. -/
inductive RLe (d0 d : D) : Prop
 | le (h : DLe d0 d)
 | frz (hc : d0.calm = true) (h : DLe d0.frz d)
def RetL (T : Nat → Option TI) (fr : List D) : List ResultVar → List D → Prop
 | [], [] => True
 | t :: ts, d :: ds => (match retD T fr t with
  | some d0 => RLe d0 d
  | none => False) ∧ RetL T fr ts ds
 | _, _ => False
def RetOk (T : Nat → Option TI) (rs : List ResultVar) (fr : List D) (d : D) : Prop :=
 match rs with
 | [r] => RetL T fr [r] [d]
 | rs => match d with
  | .tup ds => RetL T fr rs ds
  | _ => False
/-- The end of a function. -/
structure Ends (T : Nat → Option TI) (e : Exit) (rs : List ResultVar) (fr : List D) (d : D) : Prop where
 e : e = .normal ∨ e = .ret
 h : RetOk T rs fr d
/-- What is left of the first argument. -/
def OutOk (fr : List D) (out : Option D) : Prop :=
 match out with
 | none => True
 | some (.obj cs') => match fr.head? with
  | some (.obj cs) => DLes cs cs'
  | _ => False
 | _ => False
/-- The end of a function that turns its first argument. -/
structure EndsO (T : Nat → Option TI) (e : Exit) (rs : List ResultVar) (fr : List D) (d : D) (out : Option D) : Prop where
 n : Ends T e rs fr d
 o : OutOk fr out
theorem RetL.get {T : Nat → Option TI} {fr : List D} : ∀ {ts : List ResultVar} {ds : List D}, RetL T fr ts ds → ts.length = ds.length ∧ ∀ (j : Nat) (t : ResultVar) (d : D), ts[j]? = some t → ds[j]? = some d → ∃ d0, retD T fr t = some d0 ∧ RLe d0 d
 | [], [], _ => ⟨rfl, fun j t d h => by simp at h⟩
 | [], _ :: _, h => h.elim
 | _ :: _, [], h => h.elim
 | t :: ts, d :: ds, h => by
  obtain ⟨h1, h2⟩ := h
  obtain ⟨k1, k2⟩ := RetL.get h2
  refine ⟨by simp [k1], fun j t' d' ht hd => ?_⟩
  cases j with
  | zero =>
   cases ht; cases hd
   split at h1
   ·exact ⟨_, by assumption, h1⟩
   ·exact h1.elim
  | succ j => exact k2 j t' d' (by simpa using ht) (by simpa using hd)
/-- The owners behind the return. -/
def Sig.ret (S : Sig) (f : Nat → Option (Option (List Nat))) : Sig :=
 ⟨fun b => match S.own b with
  | none => none
  | some (q, l) => match f q.r with
   | none => some (q, l)
   | some none => none
   | some (some pre) => some (⟨1, pre ++ q.path⟩, l), S.loc⟩
theorem Sig.ret_lim {S : Sig} {f : Nat → Option (Option (List Nat))} {b s : Nat} (h : (S.ret f).lim b = some s) : S.lim b = some s := by
 simp only [Sig.lim, Sig.ret] at h ⊢
 cases ho : S.own b with
 | none => rw [ho] at h; cases h
 | some x =>
  obtain ⟨q, l⟩ := x
  rw [ho] at h
  simp only at h
  split at h
  ·exact h
  ·cases h
  ·exact h
theorem Fz.ret {S : Sig} {f : Nat → Option (Option (List Nat))} {w : World} {v : Value} {d : D} (h : Fz S.lim w v d) : Fz (S.ret f).lim w v d := h.mono fun _ _ _ _ hk s hs => hk s (Sig.ret_lim hs)
theorem Sig.ret_trans {S : Sig} {f : Nat → Option (Option (List Nat))} {w : World} (hw : WF S w) (h0 : f 0 = none) : Trans S w (S.ret f) w ∧ WF (S.ret f) w := by
 refine ⟨⟨rfl, rfl, rfl, Nat.le_refl _, fun b _ hn => ⟨rfl, by simp only [Sig.ret, hn]⟩, fun b p l _ hs hd => ⟨rfl, by simp only [Sig.ret, hs, hd, h0]⟩, fun b p l _ hs => ⟨Keeps.refl _ _, fun x hx => ?_⟩, rfl⟩, ⟨fun b x hx => ?_, hw.gl.sig fun b hn => by simp only [Sig.ret, hn]⟩⟩
 ·have : (S.ret f).lim b = some x.2 := by simp only [Sig.lim, hx, Option.map_some]
  have := Sig.ret_lim this
  simp only [Sig.lim, hs, Option.map_some, Option.some.injEq] at this
  omega
 ·have : (S.ret f).lim b = some x.2 := by simp only [Sig.lim, hx, Option.map_some]
  have := Sig.ret_lim this
  simp only [Sig.lim] at this
  cases ho : S.own b with
  | none => rw [ho] at this; cases this
  | some y => exact hw b y ho
section
variable {S : Sig} {w : World} {f : Nat → Option (Option (List Nat))} {r : Nat}
theorem Rep.ret_keep {pre : List Nat} (hf : f r = some (some pre)) {v : Value} {d : D} : ∀ {x : List Nat}, d.calm = true → Rep S w ⟨r, x⟩ v d → Rep (S.ret f) w ⟨1, pre ++ x⟩ v d := by
 have hown : ∀ {x : List Nat} {v : Value} {d : D}, d.calm1 = true → Rep S w ⟨r, x⟩ v d → Rep (S.ret f) w ⟨1, pre ++ x⟩ v d := by
  intro x v d hc hr
  cases hr with
  | fz h => exact .fz h.ret
  | own g =>
   refine .own ⟨g.mode, g.heap, g.le, g.max, g.size, g.each, by simp only [Sig.ret, g.own, hf], fun k r j d hk hd => ?_⟩
   obtain ⟨u, h1, h2, h3⟩ := g.cells k r j d hk hd
   exact ⟨u, h1, h2, h3.ret⟩
  | @mp _ b clock kd es ents hown hh he hk => exact .mp (by simp only [Sig.ret, hown, hf]) hh he hk
  | obj => cases hc
  | ref => cases hc
  | gref => cases hc
  | fn => cases hc
  | agg => cases hc
  | tup => cases hc
 have hagg : ∀ {x : List Nat} {v : Value} {cs : List D}, cs.all D.calm1 = true → Rep S w ⟨r, x⟩ v (.agg cs) → Rep (S.ret f) w ⟨1, pre ++ x⟩ v (.agg cs) := by
  intro x v cs hc hr
  obtain ⟨vs, rfl, h1, h2, h3⟩ := hr.agg_inv
  refine .agg vs h1 h2 fun j d v hd hv => ?_
  have := hown (List.all_eq_true.1 hc d (List.mem_of_getElem? hd)) (h3 j d v hd hv)
  simpa [Place.at, List.append_assoc] using this
 intro x hc hr
 cases d with
 | agg cs => exact hagg hc hr
 | tup ds =>
  obtain ⟨vs, rfl, h1, h3⟩ := hr.tup_inv
  refine .tup vs h1 fun j d v hd hv => ?_
  have hc1 := List.all_eq_true.1 hc d (List.mem_of_getElem? hd)
  have h4 := h3 j d v hd hv
  have : Rep (S.ret f) w ⟨1, pre ++ (x ++ [j])⟩ v d := by
   cases d with
   | agg cs => exact hagg hc1 h4
   | _ => exact hown hc1 h4
  simpa [Place.at, List.append_assoc] using this
 | any => exact .fz (.any v)
 | _ => exact hown hc hr
theorem Rep.ret_none (hf : f r = none) {v : Value} {d : D} (hc : d.left = true) (hr : Rep S w ⟨r, []⟩ v d) : Rep (S.ret f) w ⟨r, []⟩ v d := by
 have hown : ∀ {x : List Nat} {v : Value} {d : D}, d.calm1 = true → Rep S w ⟨r, x⟩ v d → Rep (S.ret f) w ⟨r, x⟩ v d := by
  intro x v d hc hr
  cases hr with
  | fz h => exact .fz h.ret
  | own g =>
   refine .own ⟨g.mode, g.heap, g.le, g.max, g.size, g.each, by simp only [Sig.ret, g.own, hf], fun k r j d hk hd => ?_⟩
   obtain ⟨u, h1, h2, h3⟩ := g.cells k r j d hk hd
   exact ⟨u, h1, h2, h3.ret⟩
  | @mp _ b clock kd es ents hown hh he hk => exact .mp (by simp only [Sig.ret, hown, hf]) hh he hk
  | obj => cases hc
  | ref => cases hc
  | gref => cases hc
  | fn => cases hc
  | agg => cases hc
  | tup => cases hc
 cases d with
 | obj cs =>
  cases hr with
  | fz h => cases h
  | @obj _ b _ _ cur e hb hp hl hh hs h1 ih =>
   exact .obj (b := b) (by simp only [Sig.ret, hb, hf]) rfl hl hh hs h1 fun i d v hd hv => hown (List.all_eq_true.1 hc d (List.mem_of_getElem? hd)) (ih i d v hd hv)
 | any => exact .fz (.any v)
 | _ => exact hown hc hr
theorem Rep.obj_le {p : Place} {v : Value} {cs cs' : List D} (h : Rep S w p v (.obj cs)) (hl : DLes cs cs') : Rep S w p v (.obj cs') := by
 cases h with
 | fz h => cases h
 | obj hb hp hlo hh hs h1 ih =>
  refine .obj hb hp hlo hh (hl.len.trans hs) h1 fun i d v hd hv => ?_
  have hi : i < cs.length := by rw [← hl.len]; exact (List.getElem?_eq_some_iff.1 hd).1
  exact Rep.le (hl.get (List.getElem?_eq_getElem hi) hd) (ih i _ v (List.getElem?_eq_getElem hi) hv)
theorem frz_calm1 {d : D} (h : d.calm1 = true) : d.frz = frz1d d := by
 cases d <;> first | rfl | cases h
theorem Rep.ret_kill (hf : f r = some none) {v : Value} {d : D} : ∀ {x : List Nat}, d.calm = true → Rep S w ⟨r, x⟩ v d → Fz (S.ret f).lim w v d.frz := by
 have hown : ∀ {x : List Nat} {v : Value} {d : D}, d.calm1 = true → Rep S w ⟨r, x⟩ v d → Fz (S.ret f).lim w v (frz1d d) := by
  intro x v d hc hr
  cases hr with
  | fz h => exact h.ret.frz1
  | own g =>
   exact g.fz2 (fun h => h.ret) rfl fun k _ s hs => by
    simp only [Sig.lim, Sig.ret, g.own, hf, Option.map_none] at hs
    cases hs
  | mp => exact .any _
  | obj => cases hc
  | ref => cases hc
  | gref => cases hc
  | fn => cases hc
  | agg => cases hc
  | tup => cases hc
 have hagg : ∀ {x : List Nat} {v : Value} {cs : List D}, cs.all D.calm1 = true → Rep S w ⟨r, x⟩ v (.agg cs) → Fz (S.ret f).lim w v (.agg (cs.map frz1d)) := by
  intro x v cs hc hr
  obtain ⟨vs, rfl, h1, h2, h3⟩ := hr.agg_inv
  refine .agg vs (by simp [h1]) h2 fun j d u hd hu => ?_
  rw [List.getElem?_map] at hd
  cases hcj : cs[j]? with
  | none => rw [hcj] at hd; cases hd
  | some e =>
   rw [hcj] at hd
   cases hd
   exact hown (List.all_eq_true.1 hc e (List.mem_of_getElem? hcj)) (h3 j e u hcj hu)
 intro x hc hr
 by_cases h1 : d.calm1 = true
 ·rw [frz_calm1 h1]; exact hown h1 hr
 cases d with
 | agg cs => exact hagg hc hr
 | tup ds =>
  obtain ⟨vs, rfl, h1, h3⟩ := hr.tup_inv
  refine .tup vs (by simp [h1]) fun j d u hd hu => ?_
  rw [List.getElem?_map] at hd
  cases hcj : ds[j]? with
  | none => rw [hcj] at hd; cases hd
  | some e =>
   rw [hcj] at hd
   cases hd
   have hc1 := List.all_eq_true.1 hc e (List.mem_of_getElem? hcj)
   have h4 := h3 j e u hcj hu
   cases e with
   | agg cs => exact hagg hc1 h4
   | _ => exact hown hc1 h4
 | any => exact .any v
 | _ => exact absurd hc h1
end
def resOne (tmps : Array Value) : ResultVar → _root_.Go.Sem Value
 | .tmp t => pure (tmps.getD t undef)
 | .cell a t => do loadVar t (← asAddr (tmps.getD a undef))
theorem results_eq (fn : Func) (tmps : Array Value) : results fn tmps = (do
 let vs ← fn.results.mapM (resOne tmps)
 pure (if h : vs.size = 1 then vs[0] else .tuple vs)) := by
 unfold results
 congr 1
theorem results_run {P : Program} {tmps : Array Value} {w : World} : ∀ {rs : List ResultVar}, (∀ r ∈ rs, ∃ v, (resOne tmps r).run P w = .ok v w) → ∃ vs : List Value, (rs.mapM (resOne tmps)).run P w = .ok vs w ∧ vs.length = rs.length ∧ ∀ (j : Nat) (r : ResultVar) (v : Value), rs[j]? = some r → vs[j]? = some v → (resOne tmps r).run P w = .ok v w
 | [], _ => ⟨[], rfl, rfl, fun j r v h => by simp at h⟩
 | r :: rs, h => by
  obtain ⟨v, hv⟩ := h r (by simp)
  obtain ⟨vs, h1, h2, h3⟩ := results_run (P := P) (tmps := tmps) (w := w) (rs := rs) fun r hr => h r (by simp [hr])
  refine ⟨v :: vs, ?_, by simp [h2], fun j r' v' hr hv' => ?_⟩
  ·rw [List.mapM_cons, Sem.run_bind, hv, Result.andThen_ok, Sem.run_bind, h1]
   rfl
  ·cases j with
   | zero => cases hr; cases hv'; exact hv
   | succ j => exact h3 j r' v' (by simpa using hr) (by simpa using hv')
theorem retD_ok {P : Program} {T : Nat → Option TI} {Z : Nat → Option (List Value)} (hT : TOk P T Z) {S : Sig} {w : World} {a : Act} {fr : List D} (h : FR S w a fr) {r : ResultVar} {d : D} (hr : retD T fr r = some d) : ∃ v, (resOne a.tmps r).run P w = .ok v w ∧ Rep S w (.slot (slotOf r)) v d := by
 cases r with
 | tmp t =>
  simp only [retD] at hr
  split at hr
  ·cases hr
  ·cases hr
  ·cases hr
  ·cases hr
  ·rename_i hn1 hn2 hn3 hn4
   obtain ⟨v, hv, hs⟩ := h.at hr
   refine ⟨v, ?_, (hs.rep (by cases d <;> first | rfl | exact absurd hr (hn1 _) | exact absurd hr (hn2 _ _) | exact absurd hr (hn3 _ _ _ _ _) | exact absurd hr (hn4 _ _ _ _))).1⟩
   simp only [resOne, Array.getD_eq_getD_getElem?, hv, Option.getD_some]
   rfl
 | cell t ty =>
  simp only [retD] at hr
  split at hr
  ·rename_i cs hd
   obtain ⟨v0, hv0, hs0⟩ := h.at hd
   obtain ⟨b, cur, e, rfl, hb, hloc, hh, hsz, h1, ih⟩ := hs0.1.obj_inv
   have hrun : ∀ {v : Value}, (loadVar ty ⟨b, 0, none⟩).run P w = .ok v w → (resOne a.tmps (.cell t ty)).run P w = .ok v w := fun hl => by
    simp only [resOne, Array.getD_eq_getD_getElem?, hv0, Option.getD_some, asAddr, Sem.run_bind, Sem.run_pure, Result.andThen_ok]
    exact hl
   have hcell : ∀ i, i < cs.length → w.cell? ⟨b, i, none⟩ = some (cur.toList.getD i undef) ∧ cur[i]? = some (cur.toList.getD i undef) := fun i hi => by
    have hc : cur[i]? = some (cur.toList.getD i undef) := by
     rw [← Array.getElem?_toList, List.getD_eq_getElem?_getD, List.getElem?_eq_getElem (by simp; omega)]
     rfl
    exact ⟨by rw [cell_of_row w b _ cur e (0, 0) hh]; exact hc, hc⟩
   split at hr
   ·rename_i n fl ks ht
    split at hr
    ·rename_i hn
     cases hr
     obtain rfl := Nat.eq_of_beq_eq_true hn
     obtain ⟨dd, k1, k2⟩ := (hT.ty _ _ ht).1.h
     have hl := run_loadVar_at (P := P) w b 0 ty cur.toList dd (fun j u hu => by
      rw [Nat.zero_add, cell_of_row w b _ cur e (0, 0) hh]
      simpa using hu) k1 (by cases dd <;> first | rfl | cases k2) (by rw [(hT.ty _ _ ht).1.sz]; simp [hsz])
     refine ⟨_, hrun hl, ?_⟩
     refine .agg cur.toList (by simp [hsz]) (fun v hv => ?_) fun j d v hj hv => ?_
     ·obtain ⟨i, hi, rfl⟩ := List.mem_iff_getElem.1 hv
      exact h1 i _ (by simp at hi ⊢)
     ·exact ih j d v hj (by simpa using hv)
    ·cases hr
   ·rename_i i hi ht
    haveI := (hT.ty _ _ ht).one (fun n fl ks e => hi n fl ks e)
    split at hr
    ·split at hr
     ·rename_i d0 ho
      cases hr
      obtain ⟨k1, k2⟩ := hcell 0 (by simp)
      refine ⟨_, hrun ?_, .fz (D.one_fz (ih 0 d _ rfl k2) ho)⟩
      obtain ⟨dd, q1, q2⟩ := TOne.h (P := P) (t := ty)
      unfold loadVar
      rw [Sem.run_bind, run_isAgg_of q1, q2]
      simp [k1]
     ·cases hr
    ·cases hr
   ·cases hr
  ·cases hr
theorem calm_comp {ds : List D} (h : (D.tup ds).calm = true) {j : Nat} {d : D} (hd : ds[j]? = some d) : d.calm = true := by
 have h1 := List.all_eq_true.1 h d (List.mem_of_getElem? hd)
 cases d with
 | agg cs => exact h1
 | _ => first | exact h1 | cases h1
section
variable {P : Program} {T : Nat → Option TI} {Z : Nat → Option (List Value)} {M : Nat → Bool}
/-- A function gives what its code does on data. -/
theorem run_intro (hT : TOk P T Z) (hm : P.follows .mixedOrders = true) {f : Nat} {fn : Func} {c : Code} {args : List D} {d : D} {out : Option D} (hf : P.funcs[f]? = some fn) (hb : fn.body = some c) (hcalm : d.calm = true) (hargs : ∀ d ∈ args, ∀ t, ¬ Men t d) (hnt : Nat.ble args.length fn.ntmps = true)
  {rs : List ResultVar} (hrs : fn.results.toList = rs) (hnd : decide (rs.map slotOf).Nodup = true)
  (hout : ∀ d', out = some d' → d'.left = true ∧ (rs.all fun r => !Nat.beq (slotOf r) 0) = true ∧ ∃ cs, args[0]? = some (.obj cs))
  (hv : HT P c (args ++ List.replicate (fn.ntmps - args.length) .any) fun e fr' => EndsO T e rs fr' d out) : ∀ (S : Sig) (w : World) (vs : List Value), WF S w → vs.length = args.length → (∀ (i : Nat) (d : D) (v : Value), args[i]? = some d → vs[i]? = some v → Rep S w (.slot i) v d) →
  Calls P f vs.toArray w fun e w' => ∃ v S', e = .returned v ∧ WF S' w' ∧ Trans S w S' w' ∧ Rep S' w' .res v d ∧ ∀ d' v0, out = some d' → vs[0]? = some v0 → Rep S' w' (.slot 0) v0 d' := by
 refine fun S w vs hw hl hr => calls_of_wp hf hb ?_
 have hF : FR S w { tmps := vs.toArray ++ Array.replicate (fn.ntmps - vs.toArray.size) undef, defers := [] } (args ++ List.replicate (fn.ntmps - args.length) .any) := by
  refine ⟨hw, by simp [hl], rfl, fun i e v hi hv => ?_⟩
  by_cases hia : i < args.length
  ·rw [List.getElem?_append_left hia] at hi
   have hv' : vs[i]? = some v := by
    have : (vs.toArray ++ Array.replicate (fn.ntmps - vs.toArray.size) undef)[i]? = vs[i]? := by
     rw [Array.getElem?_append_left (by simpa [hl] using hia)]
     simp
    rw [← this]; exact hv
   have hno := hargs e (List.mem_of_getElem? hi)
   exact SlotRep.of (hr i e v hi hv') fun t ht => absurd ht (hno t)
  ·rw [List.getElem?_append_right (by omega)] at hi
   have := List.mem_of_getElem? hi
   rw [List.mem_replicate] at this
   rw [this.2]
   exact SlotRep.of (.fz (.any _)) fun t ht => by cases ht
 refine hv.h S w _ hF _ fun e fr' S' w' a' hk ht hF' => ?_
 obtain ⟨⟨he, hret⟩, ho⟩ := hk
 have left : ∀ d' v0, out = some d' → vs[0]? = some v0 → Rep S' w' (.slot 0) v0 d' := by
  intro d' v0 hd' hv0
  obtain ⟨_, _, cs0, h0⟩ := hout d' hd'
  subst hd'
  unfold OutOk at ho
  split at ho
  ·rename_i he; cases he
  ·rename_i cs' he
   cases he
   split at ho
   ·rename_i cs hd
    rw [List.head?_eq_getElem?] at hd
    obtain ⟨v1, hv1, hs1⟩ := hF'.at hd
    have h1 : v1 = .pointer (some ⟨S'.loc 2, 0, none⟩) := by
     obtain ⟨b, _, _, rfl, _, hloc, _⟩ := hs1.1.obj_inv
     rw [hloc]
    have h2 : v0 = .pointer (some ⟨S.loc 2, 0, none⟩) := by
     obtain ⟨b, _, _, rfl, _, hloc, _⟩ := (hr 0 _ v0 h0 hv0).obj_inv
     rw [hloc]
    have : v0 = v1 := by rw [h1, h2, ht.loc2]
    subst this
    exact hs1.1.obj_le ho
   ·exact ho.elim
  ·exact ho.elim
 obtain ⟨Lft, hLft⟩ : ∃ L : Sig → Prop, ∀ S'', L S'' ↔ (∀ d' v0, out = some d' → vs[0]? = some v0 → Rep S'' w' (.slot 0) v0 d') := ⟨_, fun _ => Iff.rfl⟩
 have post : a'.defers = [] ∧ ∃ v, (results fn a'.tmps).run P w' = .ok v w' ∧ ∃ v' S'', Ending.returned v = .returned v' ∧ WF S'' w' ∧ Trans S w S'' w' ∧ Rep S'' w' .res v' d ∧ ∀ d' v0, out = some d' → vs[0]? = some v0 → Rep S'' w' (.slot 0) v0 d' := by
  refine ⟨hF'.defers, ?_⟩
  have hnd' : (rs.map slotOf).Nodup := of_decide_eq_true hnd
  -- which results are handed on with what they own
  have key : ∀ (ds : List D) (one : Bool), RetL T fr' rs ds → (∀ (j : Nat) (d : D), ds[j]? = some d → d.calm = true) → (one = true → rs.length = 1) → ∃ (S'' : Sig) (vs : List Value), (results fn a'.tmps).run P w' = .ok (if h : vs.length = 1 then vs[0] else .tuple vs.toArray) w' ∧ vs.length = ds.length ∧ WF S'' w' ∧ Trans S' w' S'' w' ∧ (∀ (j : Nat) (v : Value) (d : D), vs[j]? = some v → ds[j]? = some d → Rep S'' w' ⟨1, if one then [] else [j]⟩ v d) ∧ Lft S'' := by
   intro ds one hrl hcs hone
   classical
   obtain ⟨hlen, hget⟩ := hrl.get
   have hall : ∀ r ∈ rs, ∃ v, (resOne a'.tmps r).run P w' = .ok v w' := fun r hr => by
    obtain ⟨j, hj, rfl⟩ := List.mem_iff_getElem.1 hr
    have hjd : j < ds.length := by omega
    obtain ⟨d0, h0, _⟩ := hget j _ _ (List.getElem?_eq_getElem hj) (List.getElem?_eq_getElem hjd)
    obtain ⟨v, hv, _⟩ := retD_ok hT hF' h0
    exact ⟨v, hv⟩
   obtain ⟨vs, hvs, hvl, hvj⟩ := results_run (P := P) hall
   let f : Nat → Option (Option (List Nat)) := fun r => match rs.findIdx? (fun t => slotOf t + 2 == r) with
    | none => none
    | some j => if (∀ t d d0, rs[j]? = some t → ds[j]? = some d → retD T fr' t = some d0 → DLe d0 d) then some (some (if one then [] else [j])) else some none
   have hf0 : f 0 = none := by
    have : rs.findIdx? (fun t => slotOf t + 2 == 0) = none := by
     rw [List.findIdx?_eq_none_iff]
     intro t _
     simp
    simp only [f, this]
   have hfj : ∀ (j : Nat) (t : ResultVar), rs[j]? = some t → rs.findIdx? (fun t' => slotOf t' + 2 == slotOf t + 2) = some j := fun j t hj => by
    have hjl : j < rs.length := (List.getElem?_eq_some_iff.1 hj).1
    have hjt : rs[j] = t := (List.getElem?_eq_some_iff.1 hj).2
    rw [List.findIdx?_eq_some_iff_getElem]
    refine ⟨hjl, by simp [hjt], fun k hk => ?_⟩
    have hne := List.pairwise_iff_getElem.1 hnd' k j (by simp; omega) (by simpa using hjl) hk
    simp only [List.getElem_map, hjt] at hne
    simp only [beq_iff_eq, Nat.add_right_cancel_iff]
    simpa using hne
   obtain ⟨t1, w1⟩ := Sig.ret_trans (f := f) hF'.wf hf0
   have hl : fn.results = rs.toArray := by rw [← hrs]
   have hrun : (results fn a'.tmps).run P w' = .ok (if h : vs.length = 1 then vs[0] else .tuple vs.toArray) w' := by
    rw [results_eq, hl, List.mapM_toArray, Sem.run_bind, Sem.run_map, hvs]
    rfl
   refine ⟨S'.ret f, vs, hrun, by omega, w1, t1, fun j v d hv hd => ?_, (hLft _).2 fun d' v0 hd' hv0 => ?_⟩
   case refine_2 =>
    obtain ⟨hleft, hns, _⟩ := hout d' hd'
    have hf2 : f 2 = none := by
     have : rs.findIdx? (fun t => slotOf t + 2 == 2) = none := by
      rw [List.findIdx?_eq_none_iff]
      intro t ht'
      have := List.all_eq_true.1 hns t ht'
      simp only [Bool.not_eq_true'] at this
      simp only [beq_eq_false_iff_ne, ne_eq]
      intro he
      have hz : slotOf t = 0 := by omega
      rw [hz] at this
      cases this
     simp only [f, this]
    exact Rep.ret_none hf2 hleft (left d' v0 hd' hv0)
   have hj : j < rs.length := by rw [← hvl]; exact (List.getElem?_eq_some_iff.1 hv).1
   have hjr : rs[j]? = some rs[j] := List.getElem?_eq_getElem hj
   obtain ⟨d0, hd0, hle⟩ := hget j _ d hjr hd
   obtain ⟨v', hv', hrep⟩ := retD_ok hT hF' hd0
   have hvv := hvj j _ v hjr hv
   rw [hv'] at hvv
   cases hvv
   have hfi := hfj j _ hjr
   by_cases hdle : ∀ t d d0, rs[j]? = some t → ds[j]? = some d → retD T fr' t = some d0 → DLe d0 d
   ·have hft : f (slotOf rs[j] + 2) = some (some (if one then [] else [j])) := by simp only [f, hfi]; rw [if_pos hdle]
    have hr1 := Rep.le (hdle _ d d0 hjr hd hd0) hrep
    have := Rep.ret_keep (r := slotOf rs[j] + 2) (x := []) hft (hcs j d hd) hr1
    simpa using this
   ·have hft : f (slotOf rs[j] + 2) = some none := by simp only [f, hfi]; rw [if_neg hdle]
    have hnle : ¬ DLe d0 d := fun h => hdle fun t' d' d0' h1 h2 h3 => by
     rw [hjr] at h1; cases h1
     rw [hd] at h2; cases h2
     rw [hd0] at h3; cases h3
     exact h
    rcases hle with h | ⟨hc0, h⟩
    ·exact absurd h hnle
    ·exact Rep.le h (.fz (Rep.ret_kill (r := slotOf rs[j] + 2) (x := []) hft hc0 hrep))
  unfold RetOk at hret
  split at hret
  ·rename_i t
   obtain ⟨S'', vs, hrun, hvl, w1, t1, hk, hl0⟩ := key [d] true hret (fun j d' hd => by cases j with | zero => cases hd; exact hcalm | succ j => simp at hd) (fun _ => rfl)
   match vs, hvl with
   | [v], _ => exact ⟨_, hrun, _, S'', rfl, w1, ht.trans t1, hk 0 v d rfl rfl, (hLft _).1 hl0⟩
  ·rename_i rs' hne
   split at hret
   ·rename_i ds
    obtain ⟨hlen, _⟩ := hret.get
    obtain ⟨S'', vs, hrun, hvl, w1, t1, hk, hl0⟩ := key ds false hret (fun j d' hd => calm_comp hcalm hd) (fun e => by cases e)
    have hn1 : ¬ vs.length = 1 := fun e => by
     match rs, (show rs.length = 1 by omega) with
     | [t], _ => exact hne t rfl
    rw [dif_neg hn1] at hrun
    exact ⟨_, hrun, _, S'', rfl, w1, ht.trans t1, .tup vs hvl fun j d' v hd hv => hk j v d' hv hd, (hLft _).1 hl0⟩
   ·exact hret.elim
 rcases he with rfl | rfl
 ·exact post
 ·exact post
/-- A function gives what its code does on data. -/
theorem sem_intro (hT : TOk P T Z) (hm : P.follows .mixedOrders = true) {f : Nat} {fn : Func} {c : Code} {args : List D} {d : D} (hf : P.funcs[f]? = some fn) (hen : Enters P f) (hb : fn.body = some c) (hcalm : d.calm = true) (hargs : (args.all fun d => d.calm || d.passes) = true) (hnt : Nat.ble args.length fn.ntmps = true)
  {rs : List ResultVar} (hrs : fn.results.toList = rs) (hnd : decide (rs.map slotOf).Nodup = true)
  (hv : forceL (args ++ List.replicate (fn.ntmps - args.length) .any) fun fr => vc P T Z M c fr fun e fr' => Ends T e rs fr' d) : Sem P f args d := by
 refine ⟨hen, hcalm, fun S w vs hw hl hr => (run_intro (out := none) hT hm hf hb hcalm (fun d hd t ht => ?_) hnt hrs hnd (fun d' h => nomatch h) ?_ S w vs hw hl hr).mono fun e w' ⟨v, S', h1, h2, h3, h4, _⟩ => ⟨v, S', h1, h2, h3, h4⟩⟩
 ·have hno := List.all_eq_true.1 hargs d hd
  simp only [Bool.or_eq_true] at hno
  rcases hno with h | h
  ·exact (D.calm_men h ht).elim
  ·exact (D.passes_men h ht).elim
 ·rw [forceL_eq] at hv
  exact ⟨fun S w a hF Q' hQ => (vc_sound hT hm c hv).h S w a hF Q' fun e fr' S' w' a' k t f => hQ e fr' S' w' a' ⟨k, trivial⟩ t f⟩
/-- A function that turns the object that is its first argument. -/
theorem semO_intro (hT : TOk P T Z) (hm : P.follows .mixedOrders = true) {f : Nat} {fn : Func} {c : Code} {cs cs' args : List D} {d : D} (hf : P.funcs[f]? = some fn) (hen : Enters P f) (hb : fn.body = some c) (hcalm : d.calm = true) (hc : cs.all D.calm1 = true) (hc' : cs'.all D.calm1 = true) (hargs : args.all D.passes = true) (hnt : Nat.ble (args.length + 1) fn.ntmps = true)
  {rs : List ResultVar} (hrs : fn.results.toList = rs) (hnd : decide (rs.map slotOf).Nodup = true) (hr0 : (rs.all fun r => !Nat.beq (slotOf r) 0) = true)
  (hv : forceL (.obj cs :: args ++ List.replicate (fn.ntmps - (args.length + 1)) .any) fun fr => vc P T Z M c fr fun e fr' => EndsO T e rs fr' d (some (.obj cs'))) : SemO P f (.obj cs) args d (some (.obj cs')) := by
 refine ⟨hen, hcalm, fun d' h => by cases h; exact hc', fun S w v0 vs hw hr hl hfz => ?_⟩
 rw [forceL_eq] at hv
 have hv' := vc_sound hT hm c hv
 refine (run_intro (args := .obj cs :: args) (out := some (.obj cs')) hT hm hf hb hcalm (fun d hd t ht => ?_) (by simpa using hnt) hrs hnd (fun d' h => by cases h; exact ⟨hc', hr0, cs, rfl⟩) (by simpa using hv') S w (v0 :: vs) hw (by simp [hl]) (fun i d v hd hv => ?_)).mono fun e w' ⟨v, S', h1, h2, h3, h4, h5⟩ => ⟨v, S', h1, h2, h3, h4, fun d' hd' => h5 d' v0 hd' rfl⟩
 ·rcases List.mem_cons.1 hd with rfl | hd
  ·exact D.left_men (d := .obj cs) hc ht
  ·exact D.passes_men (List.all_eq_true.1 hargs d hd) ht
 ·cases i with
  | zero => cases hd; cases hv; exact hr
  | succ i => exact .fz (hfz i d v (by simpa using hd) (by simpa using hv))
end
end Go.Proofs.YtbphihljkbdfpaaGreatDoor
namespace Go.Proofs.YtbphihljkbdfpaaGreatDoor
set_option linter.unusedSimpArgs false
set_option linter.unusedVariables false
open Go.RowKit

/-- What tests are split by. -/
theorem SPLT : (∀ {α : Type} [BEq α] [LawfulBEq α] {a b : α}, (a != b) = true ↔ a ≠ b) ∧ (∀ {α : Type} (a b : α), (a ≠ b) = ¬ (a = b)) ∧ (∀ {α : Type} [BEq α] [LawfulBEq α] {a b : α}, (a != b) = false ↔ a = b) ∧ (∀ {α : Type} [BEq α] [LawfulBEq α] {a b : α}, (a == b) = true ↔ a = b) ∧
  (∀ {α : Type} [BEq α] [LawfulBEq α] {a b : α}, (a == b) = false ↔ a ≠ b) ∧ (∀ {p : Prop} [Decidable p], (decide p = true) = p) ∧ (∀ {p : Prop} [Decidable p], decide p = false ↔ ¬ p) ∧ (∀ b : Bool, ((!b) = true) = (b = false)) ∧ (∀ b : Bool, ((!b) = false) = (b = true)) ∧ (∀ a b : Bool, ((a && b) = true) = (a = true ∧ b = true)) ∧
  (∀ a b : Bool, ((a || b) = true) = (a = true ∨ b = true)) ∧ (∀ {a b : Bool}, (a && b) = false ↔ a = false ∨ b = false) ∧ (∀ {a b : Bool}, (a || b) = false ↔ a = false ∧ b = false) ∧ (∀ {a b : Int}, ¬ a < b ↔ b ≤ a) ∧ (∀ {a b : Int}, ¬ a ≤ b ↔ b < a) ∧ (∀ b : Bool, (¬ (b = true)) = (b = false)) ∧ (∀ b : Bool, (¬ (b = false)) = (b = true)) ∧
  (∀ {α β : Type} {as : List α} (f : α → β), (as.map f).length = as.length) ∧ (∀ {α : Type} (a : α) (as : List α), (a :: as).length = as.length + 1) ∧ (∀ {α : Type}, ([] : List α).length = 0) := by
 refine ⟨?_, ?_, ?_, ?_, ?_, ?_, ?_, ?_, ?_, ?_, ?_, ?_, ?_, ?_, ?_, ?_, ?_, ?_, ?_, ?_⟩ <;> intros <;> first | exact Bool.and_eq_false_iff | exact Bool.or_eq_false_iff | simp
theorem DrawR.go0 {ops : List Oper} {ok : Nat → Bool} {F : Nat → Prop} (h1 : ok (effOf ops 0) = true) (h2 : F (effOf ops 0)) : DrawR ops ok F := ⟨_, h1, h2⟩
theorem ends_ret {T : Nat → Option TI} {rs : List ResultVar} {fr : List D} {d : D} (h : RetOk T rs fr d) : Ends T .ret rs fr d := ⟨.inr rfl, h⟩
theorem ends_norm {T : Nat → Option TI} {rs : List ResultVar} {fr : List D} {d : D} (h : RetOk T rs fr d) : Ends T .normal rs fr d := ⟨.inl rfl, h⟩
theorem endsO_ret {T : Nat → Option TI} {rs : List ResultVar} {fr : List D} {d : D} {out : Option D} (h : RetOk T rs fr d) (o : OutOk fr out) : EndsO T .ret rs fr d out := ⟨ends_ret h, o⟩
theorem endsO_norm {T : Nat → Option TI} {rs : List ResultVar} {fr : List D} {d : D} {out : Option D} (h : RetOk T rs fr d) (o : OutOk fr out) : EndsO T .normal rs fr d out := ⟨ends_norm h, o⟩
theorem gives_go {P : Program} {f : Nat} {args ds' : List D} {d : D} (hs : Sem P f ds' d) (hl : DLes args ds') (hp : ds'.all D.passes = true) : Gives P f args d := ⟨ds', hl, hp, hs⟩
theorem givesl {P : Program} {f : Nat} {args : List D} {d : D} (h : Gives P f args d) (flat : d.flat = true) : GivesL P f args d := ⟨flat, h⟩
theorem giveso_go {P : Program} {f : Nat} {d0 d1 : D} {args ds' : List D} {d : D} {out : Option D} (hs : SemO P f d1 ds' d out) (he : d0 = d1) (hl : DLes args ds') (hp : ds'.all D.passes = true) : GivesO P f d0 args d out := ⟨d1, ds', he, hl, hp, hs⟩
theorem DLe.of_eq {d d' : D} (h : d = d') : DLe d d' := h ▸ .refl d
theorem shr_one {k : IntKind} (p : Int) : 0 ≤ (1 : Int) ∧ (1 : Int) ≤ k.bits ∧ p / 2 ^ (1 : Int).toNat = p / 2 := ⟨by decide, by cases k <;> decide, rfl⟩
theorem rle_refl {d : D} : RLe d d := .le (.refl d)
theorem rle_int {k : IntKind} {a b : Int} (h : a = b) : RLe (.int k a) (.int k b) := h ▸ rle_refl
theorem rle_bool {a b : Bool} (h : a = b) : RLe (.bool a) (.bool b) := h ▸ rle_refl
theorem rle_sl {m sz : Nat} {a b : List (List D)} (h : a = b) : RLe (.sl m sz a) (.sl m sz b) := h ▸ rle_refl
theorem rle_sl0 {m sz : Nat} {a b : List (List D)} (h : a = b) : RLe (.sl m sz a) (.sl 0 sz b) := h ▸ .frz rfl (.refl _)
theorem rle_nil {m sz : Nat} {b : List (List D)} (h : b = []) : RLe .nil (.sl m sz b) := by subst h; exact .le (.nil m sz)
/-- Rows that say less, one by one. -/
inductive LLe : List (List D) → List (List D) → Prop
 | refl (l : List (List D)) : LLe l l
 | cons {r r' : List D} {l l' : List (List D)} (h : DLes r r') (hs : LLe l l') : LLe (r :: l) (r' :: l')
 | app {a a' b b' : List (List D)} (h : LLe a a') (hs : LLe b b') : LLe (a ++ b) (a' ++ b')
 | eq {l l' : List (List D)} (h : l = l') : LLe l l'
theorem LLe.get {l l' : List (List D)} (h : LLe l l') : l'.length = l.length ∧ ∀ (k : Nat) (r r' : List D), l[k]? = some r → l'[k]? = some r' → DLes r r' := by
 induction h with
 | refl l => exact ⟨rfl, fun k r r' h1 h2 => by rw [h1] at h2; cases h2; exact DLes.refl _⟩
 | eq h => subst h; exact ⟨rfl, fun k r r' h1 h2 => by rw [h1] at h2; cases h2; exact DLes.refl _⟩
 | cons h _ ih =>
  refine ⟨by simp [ih.1], fun k r r' h1 h2 => ?_⟩
  cases k with
  | zero => cases h1; cases h2; exact h
  | succ k => exact ih.2 k r r' (by simpa using h1) (by simpa using h2)
 | @app a a' b b' _ _ ih1 ih2 =>
  refine ⟨by simp [ih1.1, ih2.1], fun k r r' h1 h2 => ?_⟩
  by_cases hk : k < a.length
  ·rw [List.getElem?_append_left hk] at h1
   rw [List.getElem?_append_left (by rw [ih1.1]; exact hk)] at h2
   exact ih1.2 k r r' h1 h2
  ·rw [List.getElem?_append_right (by omega)] at h1
   rw [List.getElem?_append_right (by rw [ih1.1]; omega), ih1.1] at h2
   exact ih2.2 _ r r' h1 h2
theorem dle_agg {a b : List D} (h : DLes a b) : DLe (.agg a) (.agg b) := .agg h.len fun _ _ _ h1 h2 => h.get h1 h2
theorem rle_agg {a b : List D} (h : DLes a b) : RLe (.agg a) (.agg b) := .le (dle_agg h)
theorem dle_int {k : IntKind} {a b : Int} (h : a = b) : DLe (.int k a) (.int k b) := h ▸ .refl _
theorem dle_bool {a b : Bool} (h : a = b) : DLe (.bool a) (.bool b) := h ▸ .refl _
theorem dle_sl {m sz : Nat} {a b : List (List D)} (h : a = b) : DLe (.sl m sz a) (.sl m sz b) := h ▸ .refl _
theorem dle_nil {m sz : Nat} {b : List (List D)} (h : b = []) : DLe .nil (.sl m sz b) := by subst h; exact .nil m sz
theorem idx_some {α : Type} {f : α → List D} {l : List α} {j : Int} {x : α} (h0 : 0 ≤ j) (h : l[j.toNat]? = some x) : 0 ≤ j ∧ (l.map f)[j.toNat]? = some (f x) := ⟨h0, by rw [List.getElem?_map, h]; rfl⟩
theorem idx_nat {α : Type} {f : α → List D} {l : List α} {k : Nat} {x : α} (h : l[k]? = some x) : 0 ≤ (k : Int) ∧ (l.map f)[(k : Int).toNat]? = some (f x) := idx_some (by omega) h
theorem idx_eq {α : Type} {f : α → List D} {l : List α} {j : Int} {k : Nat} {x : α} (h : l[k]? = some x) (hj : j = k) : 0 ≤ j ∧ (l.map f)[j.toNat]? = some (f x) := by subst hj; exact idx_nat h
/-- A frame of which these slots are known. -/
def look (i : Nat) : List (Nat × D) → D
 | [] => .any
 | (j, d) :: r => match Nat.beq i j with
  | true => d
  | false => look i r
/-- Slots that a piece of code writes. -/
def wrs : Code → List Nat
 | .region _ ops _ => ops.toList.filterMap (·.dst)
 | .seq a b => wrs a ++ wrs b
 | .cond _ a b => wrs a ++ wrs b
 | .block _ a => wrs a
 | .loop a => wrs a
 | _ => []
def mem (i : Nat) : List Nat → Bool
 | [] => false
 | j :: r => match Nat.beq i j with
  | true => true
  | false => mem i r
/-- The frame at the head of a loop: what the loop writes is as given, all else as it came. -/
def head (ws : List Nat) (l : List (Nat × D)) : Nat → List D → List D
 | _, [] => []
 | i, d :: r => (match mem i ws || mem i (l.map (·.1)) with
  | true => look i l
  | false => match d with
   | .al u => match mem u ws with
    | true => look i l
    | false => .al u
   | .alc _ _ => look i l
   | .el _ _ _ _ _ => look i l
   | .es _ _ _ _ => look i l
   | d => d) :: head ws l (i + 1) r
section
variable {P : Program} {T : Nat → Option TI} {Z : Nat → Option (List Value)} {M : Nat → Bool}
/-- A loop whose slots hold, round by round, what is given. -/
theorem loop_go (hT : TOk P T Z) (hm : P.follows .mixedOrders = true) {c : Code} {fr : List D} {Q : Exit → List D → Prop} {α : Type} (I : α → List (Nat × D)) (pre : α → Prop) (μ : α → Nat) (x0 : α) (h0 : forceH (head (wrs c) (I x0) 0 fr) (FLe fr)) (hp0 : pre x0)
  (step : ∀ x, pre x → forceH (head (wrs c) (I x) 0 fr) fun fr1 => vc P T Z M c fr1 fun e fr' => match e with
   | .normal => Halt' (∃ y, pre y ∧ μ y < μ x ∧ forceH (head (wrs c) (I y) 0 fr) (FLe fr'))
   | e => Q e fr') : HT P (.loop c) fr Q := by
 simp only [forceH_eq] at h0 step
 exact vc_loop hT hm (fun x => head (wrs c) (I x) 0 fr) pre μ x0 h0 hp0 step
/-- Slots whose elements the code reads by address. -/
def downs (ts : List Nat) (fr : List D) : List D := ts.foldl (fun fr t => down1 fr (.tmp t)) fr
theorem ht_down (ts : List Nat) {c : Code} {fr : List D} {Q : Exit → List D → Prop} (h : forceL (downs ts fr) fun fr => HT P c fr Q) : HT P c fr Q := by
 rw [forceL_eq] at h
 refine ⟨fun S w a hF Q' hQ => ?_⟩
 obtain ⟨S1, t1, h1⟩ := fold_sound (fun S fr t h => down1_sound h (.tmp t)) ts _ _ hF
 exact h.h S1 w a h1 Q' fun e fr' S' w' a' k t f => hQ e fr' S' w' a' k (t1.trans t) f
end
/-! Closers: each is tried where it is named. -/
theorem DLes.au {a b : List D} (h : DLes a b := by first | exact DLes.refl _ | ((repeat (first | exact DLes.nil | ((apply DLes.cons); (focus (first | exact DLe.refl _ | exact DLe.own _ _ | exact DLe.nil _ _ | exact DLe.any _))))); (first | done | fail))) : DLes a b := h
theorem pre {p : Prop} (h : p := by first | exact rfl | assumption | omega | (simp; omega) | (simp; (first | done | fail))) : p := h
theorem side {p : Prop} (h : p := by first | exact idx_nat (by assumption) | exact idx_some (by omega) (by assumption) | exact idx_eq (by assumption) (by omega) | exact shr_one _ | exact IntWalk.i64_in _ (by omega) | exact IntWalk.u8_in _ (by omega) | exact ⟨by omega, IntWalk.i64_quo _ _ ⟨by omega, by omega, by omega⟩⟩ | exact ⟨by omega, IntWalk.rem_in _ _ (by omega)⟩ | exact IntWalk.u64_in _ (by omega) | exact IntWalk.i32_in _ (by omega) | exact rfl | exact ⟨by omega, rfl⟩ | exact ⟨by omega, (by decide), IntWalk.i64_in _ (by omega)⟩ | exact ⟨by omega, (by decide), rfl⟩ | exact ⟨by omega, (by show _ ≤ (64 : Int); omega), rfl⟩ | exact ⟨rfl, rfl⟩ | assumption | exact ⟨by omega, by omega⟩ | exact ⟨by omega, by simp; omega⟩ | omega | exact ⟨rfl, rfl, by simp only [List.length_map, List.length_append, List.length_cons, List.length_nil]; omega⟩ | exact ⟨rfl, rfl, by simp; omega⟩ | exact ⟨rfl, rfl, by omega⟩ | exact ⟨rfl, by simp; omega⟩ | exact id | (intro h; simp [h]; done) | ((repeat (first | exact trivial | exact rfl | apply And.intro)); done) | (simp; omega) | (refine ⟨?_, ?_, ?_⟩ <;> first | omega | (simp; done) | (simp; omega)) | (simp_all; (first | done | fail))) : p := h
theorem sideG {p : Prop} (h : p := by first | exact idx_nat (by assumption) | exact idx_some (by omega) (by assumption) | exact idx_eq (by assumption) (by omega) | exact shr_one _ | exact IntWalk.i64_in _ (by omega) | exact IntWalk.u8_in _ (by omega) | exact ⟨by omega, IntWalk.i64_quo _ _ ⟨by omega, by omega, by omega⟩⟩ | exact ⟨by omega, IntWalk.rem_in _ _ (by omega)⟩ | exact IntWalk.u64_in _ (by omega) | exact IntWalk.i32_in _ (by omega) | exact rfl | exact ⟨by omega, rfl⟩ | exact ⟨by omega, (by decide), IntWalk.i64_in _ (by omega)⟩ | exact ⟨by omega, (by decide), rfl⟩ | exact ⟨by omega, (by show _ ≤ (64 : Int); omega), rfl⟩ | exact ⟨rfl, rfl⟩ | assumption | exact ⟨by omega, by omega⟩ | exact ⟨by omega, by simp; omega⟩ | omega | exact ⟨rfl, rfl, by simp only [List.length_map, List.length_append, List.length_cons, List.length_nil]; omega⟩ | exact ⟨rfl, rfl, by simp; omega⟩ | exact ⟨rfl, rfl, by omega⟩ | exact ⟨rfl, by simp; omega⟩ | exact id | (intro h; simp [h]; done) | ((repeat (first | exact trivial | exact rfl | apply And.intro)); done) | (simp; omega) | (refine ⟨?_, ?_, ?_⟩ <;> first | omega | (simp; done) | (simp; omega)) | exact hc0 | exact ⟨hc0, hc0⟩ | exact ⟨hc0, hc0, hc0⟩ | (simp only [Bool.and_eq_true] at hc0; simp [hc0]; done) | (simp_all; (first | done | fail))) : p := h
theorem noB {p : Prop} (h : p := by first | contradiction | exact absurd hb (by assumption) | exact absurd (by assumption) hb | (exfalso; omega) | (exfalso; simp at hb; (first | done | fail))) : p := h
theorem endR {p : Prop} (h : p := by first | exact trivial | exact DLes.nil | with_reducible exact DLe.refl _ | exact DLe.any _ | with_reducible exact rle_refl | exact rle_bool rfl | exact rle_int rfl | exact rle_nil rfl | exact rle_sl0 rfl) : p := h
theorem endF {p : Prop} (h : p := by first | exact DLes.nil | with_reducible exact DLe.refl _ | exact DLe.any _) : p := h
theorem endF2 {p : Prop} (h : p := by first | exact DLe.refl _ | exact dle_int (by omega) | exact dle_nil rfl | exact DLe.own _ _) : p := h
end Go.Proofs.YtbphihljkbdfpaaGreatDoor
namespace Go.Proofs.YtbphihljkbdfpaaGreatDoor
set_option linter.unusedSimpArgs false
set_option linter.unusedVariables false
open Go.RowKit

/-- What a call made that owns its row. -/
theorem made_rows {S : Sig} {w w' : World} (hw : WF S w) (hx : Below w.heap.size w w') {v : Value} {sz : Nat} {rows : List (List D)} {news : List Value} {t : TypeId} (hall : ∀ r ∈ rows, r.length = sz) (h1 : ∀ u ∈ news, u.oneCell' = true)
  (hk : ∀ (k : Nat) (r : List D) (j : Nat) (d : D), rows[k]? = some r → r[j]? = some d → ∃ u, news[k * sz + j]? = some u ∧ Fz S.lim w u d) (ho : w'.ownsRow w.heap.size t sz v rows.length news) : ∃ S', WF S' w' ∧ Trans S w S' w' ∧ Rep S' w' .res v (.sl 2 sz rows) := by
 have hx' : Ext w w' := hx
 have hp := PT.ext' hw hx'
 rcases ho.2 with ⟨rfl, h0⟩ | ⟨g, cap, cur, rfl, hb, hg, hnc, hcm, hcs, ht⟩
 ·have : rows = [] := List.eq_nil_of_length_eq_zero h0
  subst this
  exact ⟨S, hp.wf, hp.trans, .fz (.slNil 2 sz)⟩
 ·have hlt : g < w'.heap.size := (Array.getElem?_eq_some_iff.1 hg).1
  have hne : ∀ b, b < w.heap.size → b ≠ g := fun b h e => by omega
  have hq : PT S w (S.set g (some (.res, 0))) w' := ⟨hx', fun b h => Sig.set_ne _ _ (hne b h), rfl, ⟨fun b x hb' => by
   by_cases hbg : b = g
   ·subst hbg; exact hlt
   ·rw [Sig.set_ne _ _ hbg] at hb'
    exact hp.wf b x hb', hw.gl.keep fun b h hn => ⟨hx'.block h, (Sig.set_ne _ _ (hne b h)).trans hn⟩⟩⟩
  refine ⟨_, hq.wf, hq.trans, .own ⟨.inr rfl, hg, hnc, hcm, hcs, hall, by rw [Sig.set_at]; rfl, fun k r j d hk' hd => ?_⟩⟩
  obtain ⟨u, u1, u2⟩ := hk k r j d hk' hd
  refine ⟨u, ?_, h1 u (List.mem_of_getElem? u1), u2.trans hq.trans⟩
  have hkl : k < rows.length := (List.getElem?_eq_some_iff.1 hk').1
  have hj : j < sz := by rw [← hall r (List.mem_of_getElem? hk')]; exact (List.getElem?_eq_some_iff.1 hd).1
  have hlt2 : k * sz + j < rows.length * sz := by
   have : (k + 1) * sz ≤ rows.length * sz := Nat.mul_le_mul_right _ hkl
   rw [Nat.add_mul] at this
   omega
  rw [← ht, List.getElem?_take, if_pos hlt2, Array.getElem?_toList] at u1
  exact u1
theorem clone_sem {P : Program} {f : Nat} [hen : Enters P f] {e sz : Nat} {rows : List (List D)} (hall : ∀ r ∈ rows, r.length = sz)
  (hnil : ∀ w, Calls P f #[.slice none 0 0] w fun x w' => x = .returned (.slice none 0 0) ∧ w' = w)
  (hzero : ∀ (A : Addr) (c : Nat) (w : World), Calls P f #[.slice (some A) 0 c] w fun x w' => ∃ v', x = .returned v' ∧ w'.ownsRow w.heap.size e sz v' 0 [] ∧ v' ≠ .slice none 0 0 ∧ Below w.heap.size w w')
  (hsome : ∀ (b o c : Nat) (news : List Value) (w : World), news.length = rows.length * sz → (∀ (j : Nat) (u : Value), news[j]? = some u → w.cell? ⟨b, o + j, none⟩ = some u) → (∀ u ∈ news, u.oneCell' = true) → (∃ lim, ∀ (k : Nat) (r : List D) (j : Nat) (d : D), rows[k]? = some r → r[j]? = some d → ∃ u, news[k * sz + j]? = some u ∧ Fz lim w u d) →
   Calls P f #[.slice (some ⟨b, o, none⟩) rows.length c] w fun x w' => ∃ v', x = .returned v' ∧ w'.ownsRow w.heap.size e sz v' rows.length news ∧ v' ≠ .slice none 0 0 ∧ Below w.heap.size w w') : Sem P f [.sl 0 sz rows] (.sl 2 sz rows) := by
 refine ⟨hen, rfl, fun S w vs hw hvl hr => ?_⟩
 obtain ⟨v, rfl⟩ : ∃ v, vs = [v] := by
  match vs, hvl with
  | [v], _ => exact ⟨v, rfl⟩
 have h0 := hr 0 _ v rfl rfl
 have hfz : Fz S.lim w v (.sl 0 sz rows) := h0.passes rfl
 have done : ∀ (A : Addr) (c : Nat), rows = [] → v = .slice (some A) 0 c → Calls P f #[v] w fun x w' => ∃ v' S', x = .returned v' ∧ WF S' w' ∧ Trans S w S' w' ∧ Rep S' w' .res v' (.sl 2 sz rows) := fun A c he hv => by
  subst he; subst hv
  refine (hzero A c w).mono fun x w' ⟨v', h3, h4, _, h5⟩ => ?_
  obtain ⟨S', k1, k2, k3⟩ := made_rows hw h5 (rows := []) (news := []) hall (fun u hu => by cases hu) (fun k r j d hk => by simp at hk) h4
  exact ⟨v', S', h3, k1, k2, k3⟩
 cases hfz with
 | slNil =>
  refine (hnil w).mono fun x w' ⟨h1, h2⟩ => ?_
  subst h2
  exact ⟨_, S, h1, hw, Trans.refl S _, .fz (.slNil 2 sz)⟩
 | slE A => exact done A 0 rfl rfl
 | @sl b o cap _ _ cv hc hm hrl hh ih =>
  rcases h0.source with ⟨A, hv, rfl⟩ | ⟨b', o', c, news, hv, k1, k2, k3, k4, k5⟩
  ·cases hv
   exact done _ _ rfl rfl
  ·rw [hv]
   refine (hsome b' o' c news w k1 k2 k3 ⟨_, k5⟩).mono fun x w' ⟨v', h3, h4, _, h5⟩ => ?_
   obtain ⟨S', q1, q2, q3⟩ := made_rows hw h5 hall k3 k5 h4
   exact ⟨v', S', h3, q1, q2, q3⟩
theorem DrawI.at {ops : List Oper} {n : Nat} {F : List (List Bool) → Prop} (d : Nat) (L : List (List Bool)) (h0 : (match ops with | o :: _ => o.dst | [] => none) = some d) (h1 : okI ops n L = true) (h2 : F L) : DrawI ops n F := ⟨L, h1, h2⟩
/-- What a call gives may be read alone from now on. -/
theorem Sem.frozen {P : Program} {f sz : Nat} {args : List D} {rows : List (List D)} (h : Sem P f args (.sl 2 sz rows)) : Sem P f args (.sl 0 sz rows) := by
 refine ⟨h.1, rfl, fun S w vs hw hl hr => (h.2.2 S w vs hw hl hr).mono fun e w' ⟨v, S', he, hw', ht, hrep⟩ => ?_⟩
 rcases hrep.sl_inv with ⟨rfl, rfl⟩ | ⟨b, cap, cur, e0, rfl, g⟩
 ·exact ⟨_, S', he, hw', ht, .fz (.slNil 0 sz)⟩
 ·have hown := g.own
  rw [if_pos rfl] at hown
  have t2 : Trans S' w' (S'.set b (some (.res, rows.length * sz))) w' := by
   refine ⟨rfl, rfl, rfl, Nat.le_refl _, fun b' _ hn => ⟨rfl, ?_⟩, fun b' p l _ hp hd => ⟨rfl, ?_⟩, fun b' p l _ hp => ⟨Keeps.refl _ _, fun x hx => ?_⟩, rfl⟩
   ·have hne : b' ≠ b := fun e => by subst e; rw [hown] at hn; cases hn
    rw [S'.set_ne _ hne]; exact hn
   ·have hne : b' ≠ b := fun e => by subst e; rw [hown] at hp; cases hp; simp [Place.res] at hd
    rw [S'.set_ne _ hne]; exact hp
   ·by_cases hne : b' = b
    ·subst hne
     rw [hown] at hp
     cases hp
     exact Nat.zero_le _
    ·rw [S'.set_ne _ hne, hp] at hx
     cases hx
     exact Nat.le_refl _
  have w2 : WF (S'.set b (some (.res, rows.length * sz))) w' := hw'.of t2 fun b' x hx => by
   by_cases hne : b' = b
   ·subst hne; exact hw' _ _ hown
   ·rw [S'.set_ne _ hne] at hx; exact hw' _ _ hx
  have g2 : OwnAt (S'.set b (some (.res, rows.length * sz))) w' .res b cap 1 sz rows cur e0 := ⟨.inl rfl, g.heap, g.le, g.max, g.size, g.each, by rw [S'.set_at]; rfl, fun k r j d hk hd => by
   obtain ⟨u, u1, u2, u3⟩ := g.cells k r j d hk hd
   exact ⟨u, u1, u2, u3.trans t2⟩⟩
  exact ⟨_, _, he, w2, ht.trans t2, .fz g2.fz⟩
/-- A slice in memory has at most so many elements. -/
theorem Fz.len {lim : Nat → Option Nat} {w : World} {v : Value} {m sz : Nat} {rows : List (List D)} (h : Fz lim w v (.sl m sz rows)) : rows.length ≤ 9223372036854775807 := by
 cases h with
 | slNil => simp
 | slE => simp
 | sl cv hc hm => exact Nat.le_trans hc hm
theorem Rep.len {S : Sig} {w : World} {p : Place} {v : Value} {m sz : Nat} {rows : List (List D)} (h : Rep S w p v (.sl m sz rows)) : rows.length ≤ 9223372036854775807 := by
 cases h with
 | fz h => exact h.len
 | own g => exact Nat.le_trans g.le g.max
theorem sem_len {P : Program} {f : Nat} [hen : Enters P f] {args : List D} {d : D} (i : Nat) {m sz : Nat} {rows : List (List D)} (hi : args[i]? = some (.sl m sz rows)) (hc : d.calm = true) (h : rows.length ≤ 9223372036854775807 → Sem P f args d) : Sem P f args d :=
 ⟨hen, hc, fun S w vs hw hl hr => by
  have hlt : i < vs.length := by rw [hl]; exact (List.getElem?_eq_some_iff.1 hi).1
  exact (h (hr i _ _ hi (List.getElem?_eq_getElem hlt)).len).2.2 S w vs hw hl hr⟩
theorem sem_lenA {P : Program} {f : Nat} [hen : Enters P f] {args : List D} {d : D} (i j : Nat) {m sz : Nat} {cs : List D} {rows : List (List D)} (hi : args[i]? = some (.agg cs)) (hj : cs[j]? = some (.sl m sz rows)) (hc : d.calm = true) (h : rows.length ≤ 9223372036854775807 → Sem P f args d) : Sem P f args d :=
 ⟨hen, hc, fun S w vs hw hl hr => by
  have hlt : i < vs.length := by rw [hl]; exact (List.getElem?_eq_some_iff.1 hi).1
  obtain ⟨us, _, h2, _, h4⟩ := (hr i _ _ hi (List.getElem?_eq_getElem hlt)).agg_inv
  have hlj : j < us.length := by rw [h2]; exact (List.getElem?_eq_some_iff.1 hj).1
  exact (h (h4 j _ _ hj (List.getElem?_eq_getElem hlj)).len).2.2 S w vs hw hl hr⟩
end Go.Proofs.YtbphihljkbdfpaaGreatDoor
namespace Go.Proofs.YtbphihljkbdfpaaGreatDoor
set_option linter.unusedSimpArgs false
set_option linter.unusedVariables false
open Go.RowKit
section
variable {c : UInt8}

def partsAt (c : UInt8) : List UInt8 → List (List UInt8)
 | [] => [[]]
 | b :: r => if b = c then [] :: partsAt c r else match partsAt c r with
  | [] => [[b]]
  | h :: t => (b :: h) :: t
theorem parts_none : ∀ {s : List UInt8}, c ∉ s → partsAt c s = [s]
 | [], _ => rfl
 | b :: r, h => by
  simp only [List.mem_cons, not_or] at h
  rw [partsAt, if_neg (Ne.symm h.1), parts_none h.2]
theorem parts_app : ∀ {a : List UInt8} (r : List UInt8), c ∉ a → partsAt c (a ++ c :: r) = a :: partsAt c r
 | [], r, _ => by rw [List.nil_append, partsAt, if_pos rfl]
 | b :: a, r, h => by
  simp only [List.mem_cons, not_or] at h
  rw [List.cons_append, partsAt, if_neg (Ne.symm h.1), parts_app r h.2]
theorem parts_ne : ∀ s, partsAt c s ≠ []
 | [] => by simp [partsAt]
 | b :: r => by
  rw [partsAt]
  split
  ·simp
  ·split <;> simp
theorem cut_at {s : List UInt8} {i : Nat} (h : Lib.indexByte s c = i) : c ∉ s.take i ∧ s = s.take i ++ c :: s.drop (i + 1) := by
 obtain ⟨h1, h2⟩ := Lib.indexByte_some h
 refine ⟨fun hm => ?_, ?_⟩
 ·obtain ⟨k, hk⟩ := List.mem_iff_getElem?.1 hm
  rw [List.getElem?_take] at hk
  split at hk
  ·rename_i hlt
   exact h2 k hlt hk
  ·cases hk
 ·obtain ⟨hlt, he⟩ := List.getElem?_eq_some_iff.1 h1
  have := List.drop_eq_getElem_cons hlt
  rw [he] at this
  rw [← this, List.take_append_drop]
theorem splitK_parts : ∀ (k : Nat) (s : List UInt8), s.count c ≤ k → Lib.splitK [c] 0 k s = partsAt c s
 | 0, s, h => by
  rw [Lib.splitK, parts_none]
  intro hm
  have := List.count_pos_iff.2 hm
  omega
 | k + 1, s, h => by
  rw [Lib.splitK, Lib.index_one]
  split
  ·rename_i he
   rw [parts_none]
   intro hm
   obtain ⟨j, hj⟩ := List.mem_iff_getElem?.1 hm
   exact Lib.indexByte_none (beq_iff_eq.1 he) j hj
  ·rename_i he
   have hge := Lib.indexByte_ge s c
   obtain ⟨i, hi⟩ : ∃ i : Nat, Lib.indexByte s c = i := ⟨(Lib.indexByte s c).toNat, by
    have : Lib.indexByte s c ≠ -1 := fun e => he (beq_iff_eq.2 e)
    omega⟩
   obtain ⟨h1, h2⟩ := cut_at hi
   rw [hi]
   simp only [Int.toNat_natCast, Nat.add_zero, List.length_cons, List.length_nil, Nat.zero_add]
   rw [splitK_parts k (s.drop (i + 1)) (by rw [h2, List.count_append, List.count_cons_self] at h; omega)]
   conv => rhs; rw [h2]
   rw [parts_app _ h1]
theorem split_parts (s : ByteArray) : (Lib.splitB ⟨#[c]⟩ 0 (Lib.countB s ⟨#[c]⟩) s).map (·.data.toList) = partsAt c s.data.toList := by
 rw [Lib.splitB_data]
 exact splitK_parts _ _ (by rw [show Lib.countB s ⟨#[c]⟩ = s.data.toList.count c from Lib.count_one c _]; exact Nat.le_refl _)
theorem parts_len : ∀ s : List UInt8, (partsAt c s).length ≤ s.length + 1
 | [] => by simp [partsAt]
 | b :: r => by
  have ih := parts_len r
  rw [partsAt]
  split
  ·simp only [List.length_cons]; omega
  ·cases hw : partsAt c r with
   | nil => simp
   | cons h t =>
    rw [hw] at ih
    simp only [List.length_cons] at ih ⊢
    omega
end
end Go.Proofs.YtbphihljkbdfpaaGreatDoor
