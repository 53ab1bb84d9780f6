/- What a frame owns: slices that are frozen, handed on, appended to. -/
import Derived.Test.YtdopillligfdiaaDoorM7
namespace Go.Proofs.YtdopillligfdiaaDoor
set_option linter.unusedSimpArgs false
set_option linter.unusedVariables false
open Go.RowKit

/-- A step that touches one block. -/
structure BT (S : Sig) (w : World) (S' : Sig) (w' : World) (b0 : Nat) : Prop where
  tr : Trans S w S' w'
  wf : WF S' w'
  loc : S'.loc = S.loc
  heap : ∀ b, b < w.heap.size → b ≠ b0 → w'.heap[b]? = w.heap[b]?
  own : ∀ b, b < w.heap.size → b ≠ b0 → S'.own b = S.own b
def D.isObj : D → Bool
  | .obj _ => true
  | _ => false
theorem BT.rep {S S' : Sig} {w w' : World} {b0 u l0 : Nat} {q0 : Place} {fr : List D} (h : BT S w S' w' b0) (hw : WF S w) (h0 : S.own b0 = some (q0, l0)) (hq : q0.r = u + 2) {d0 : D} (hd : fr[u]? = some d0) (hn : d0.isObj = false)
    {i : Nat} {e : D} {v : Value} (hi : i ≠ u) (hr : Rep S w (.slot i) v e) (hf : RefOk fr e) : Rep S' w' (.slot i) v e := by
  refine hr.trans hw h.tr (by rw [h.loc]) (fun b q l hs hu => ?_) (fun _ => by rw [h.loc]) fun t hm ht => ?_
  · have hb : b ≠ b0 := fun e => by
      subst e
      rw [h0] at hs
      cases hs
      have := hu.1
      simp only [Place.slot] at this
      omega
    exact ⟨h.heap b (hw _ _ hs) hb, by rw [h.own b (hw _ _ hs) hb]; exact hs⟩
  · rw [h.loc]
    refine ⟨rfl, ?_⟩
    obtain ⟨cs, hc⟩ := hf t hm
    have hb : S.loc (t + 2) ≠ b0 := fun e => by
      rw [e, h0] at ht
      cases ht
      simp only [Place.slot] at hq
      have : t = u := by omega
      subst this
      rw [hd] at hc
      cases hc
      cases hn
    rw [h.own _ (hw _ _ ht) hb]
    exact ht
/-- Aliases of a slot that is let go. -/
def unal (u : Nat) (r : D) : D → D
  | .al x => if x = u then r else .al x
  | d => d
theorem FR.rebuild {S S' : Sig} {w w' : World} {a : Act} {fr : List D} (h : FR S w a fr) {b0 u l0 : Nat} {q0 : Place} (hb : BT S w S' w' b0) (h0 : S.own b0 = some (q0, l0)) (hq : q0.r = u + 2) {d0 : D} (hd : fr[u]? = some d0) (hn : d0.isObj = false)
    {r r0 : D} (hr : ∀ v p, a.tmps[u]? = some v → Rep S' w' p v r) (hm : ∀ t, ¬ Men t r) (hr0 : ∀ v, a.tmps[u]? = some v → Rep S' w' (.slot u) v r0) (hm0 : ∀ t, ¬ Men t r0) : FR S' w' a ((fr.map (unal u r)).set u r0) := by
  have hlt : u < fr.length := (List.getElem?_eq_some_iff.1 hd).1
  have hrk : ∀ e, RefOk fr e → RefOk ((fr.map (unal u r)).set u r0) e := fun e he x hx => by
    obtain ⟨cs, hc⟩ := he x hx
    have hxu : u ≠ x := fun e => by subst e; rw [hd] at hc; cases hc; cases hn
    exact ⟨cs, by rw [List.getElem?_set_ne hxu, List.getElem?_map, hc]; rfl⟩
  refine ⟨hb.wf, by simp [h.size], h.defers, fun i e v hi hv => ?_⟩
  by_cases hiu : i = u
  · subst hiu
    rw [List.getElem?_set_self (by simpa using hlt)] at hi
    cases hi
    exact SlotRep.of (hr0 v hv) fun t ht => (hm0 t ht).elim
  · rw [List.getElem?_set_ne (Ne.symm hiu), List.getElem?_map] at hi
    cases hfi : fr[i]? with
    | none => rw [hfi] at hi; cases hi
    | some e0 =>
      rw [hfi] at hi
      cases hi
      have hs := h.slot i e0 v hfi hv
      cases e0 with
      | al x =>
        obtain ⟨h1, d', h2, h3, h4⟩ := hs
        by_cases hxu : x = u
        · subst hxu
          simp only [unal, if_true]
          exact SlotRep.of (hr v _ h1) fun t ht => (hm t ht).elim
        · simp only [unal, if_neg hxu]
          refine ⟨h1, d', ?_, h3, h4⟩
          rw [List.getElem?_set_ne (Ne.symm hxu), List.getElem?_map, h2]
          cases d' <;> first | rfl | cases h3
      | _ => exact ⟨hb.rep h.wf h0 hq hd hn hiu hs.1 hs.2, hrk _ hs.2⟩
/-- The slot keeps what it owns, in another way. -/
theorem FR.reown {S S' : Sig} {w w' : World} {a : Act} {fr : List D} (h : FR S w a fr) {b0 u l0 : Nat} {q0 : Place} (hb : BT S w S' w' b0) (h0 : S.own b0 = some (q0, l0)) (hq : q0.r = u + 2) {d0 : D} (hd : fr[u]? = some d0) (hn : d0.isObj = false)
    {r0 : D} (hr0 : ∀ v, a.tmps[u]? = some v → Rep S' w' (.slot u) v r0) (hm0 : ∀ t, ¬ Men t r0) (ho : r0.owns = true) : FR S' w' a (fr.set u r0) := by
  have hlt : u < fr.length := (List.getElem?_eq_some_iff.1 hd).1
  have hrk : ∀ e, RefOk fr e → RefOk (fr.set u r0) e := fun e he x hx => by
    obtain ⟨cs, hc⟩ := he x hx
    have hxu : u ≠ x := fun e => by subst e; rw [hd] at hc; cases hc; cases hn
    exact ⟨cs, by rw [List.getElem?_set_ne hxu]; exact hc⟩
  refine ⟨hb.wf, by simp [h.size], h.defers, fun i e v hi hv => ?_⟩
  by_cases hiu : i = u
  · subst hiu
    rw [List.getElem?_set_self hlt] at hi
    cases hi
    exact SlotRep.of (hr0 v hv) fun t ht => (hm0 t ht).elim
  · rw [List.getElem?_set_ne (Ne.symm hiu)] at hi
    have hs := h.slot i e v hi hv
    cases e with
    | al x =>
      obtain ⟨h1, d', h2, h3, h4⟩ := hs
      by_cases hxu : x = u
      · subst hxu
        exact ⟨h1, r0, by rw [List.getElem?_set_self hlt], ho, h4⟩
      · exact ⟨h1, d', by rw [List.getElem?_set_ne (Ne.symm hxu)]; exact h2, h3, h4⟩
    | _ => exact ⟨hb.rep h.wf h0 hq hd hn hiu hs.1 hs.2, hrk _ hs.2⟩
/-- Who owns a block changes, and nothing else. -/
def Sig.set (S : Sig) (b0 : Nat) (x : Option (Place × Nat)) : Sig := ⟨fun b => if b = b0 then x else S.own b, S.loc⟩
theorem Sig.set_at (S : Sig) (b0 : Nat) (x : Option (Place × Nat)) : (S.set b0 x).own b0 = x := if_pos rfl
theorem Sig.set_ne (S : Sig) {b b0 : Nat} (x : Option (Place × Nat)) (h : b ≠ b0) : (S.set b0 x).own b = S.own b := if_neg h
theorem BT.ghost {S : Sig} {w : World} (hw : WF S w) {b0 l0 : Nat} {q0 : Place} (h0 : S.own b0 = some (q0, l0)) (hq : q0.r ≠ 0) {x : Option (Place × Nat)} (hx : ∀ y, x = some y → l0 ≤ y.2) : BT S w (S.set b0 x) w b0 := by
  refine ⟨⟨rfl, rfl, rfl, Nat.le_refl _, fun b hb hn => ⟨rfl, ?_⟩, fun b p l hb hs hd => ⟨rfl, ?_⟩, fun b p l hb hs => ⟨Keeps.refl _ _, fun y hy => ?_⟩, rfl⟩, fun b y hy => ?_, rfl, fun _ _ _ => rfl, fun b hb hne => S.set_ne x hne⟩
  · rw [S.set_ne x (fun e => by subst e; rw [h0] at hn; cases hn)]; exact hn
  · rw [S.set_ne x (fun e => by subst e; rw [h0] at hs; cases hs; exact hq hd)]; exact hs
  · by_cases hbb : b = b0
    · subst hbb
      rw [S.set_at] at hy
      rw [h0] at hs
      cases hs
      exact hx y hy
    · rw [S.set_ne x hbb, hs] at hy
      cases hy
      exact Nat.le_refl _
  · by_cases hbb : b = b0
    · subst hbb; exact hw _ _ h0
    · rw [S.set_ne x hbb] at hy; exact hw _ _ hy
theorem OwnAt.fz2 {S : Sig} {w : World} {p : Place} {b cap m sz : Nat} {rows : List (List D)} {cur : Array Value} {e : TypeId} (h : OwnAt S w p b cap m sz rows cur e) {lim' : Nat → Option Nat} {w' : World} (ht : ∀ {v : Value} {d : D}, Fz S.lim w v d → Fz lim' w' v d) (hh : w'.heap[b]? = w.heap[b]?) (hl' : ∀ k, k < rows.length * sz → OkC lim' b k) :
    Fz lim' w' (.slice (some ⟨b, 0, none⟩) rows.length cap) (.sl 0 sz rows) := by
  have hex : ∀ k j, ∃ v : Value, ∀ r d, rows[k]? = some r → r[j]? = some d → cur[k * sz + j]? = some v ∧ v.oneCell' = true ∧ Fz S.lim w v d := fun k j => by
    cases hr : rows[k]? with
    | none => exact ⟨undef, fun r d h1 => by cases h1⟩
    | some r =>
      cases hd : r[j]? with
      | none => exact ⟨undef, fun r' d h1 h2 => by cases h1; rw [hd] at h2; cases h2⟩
      | some d =>
        obtain ⟨v, hv⟩ := h.cells k r j d hr hd
        exact ⟨v, fun r' d' h1 h2 => by cases h1; rw [hd] at h2; cases h2; exact hv⟩
  let cv : Nat → Nat → Value := fun k j => Classical.choose (hex k j)
  have hcv : ∀ k j r d, rows[k]? = some r → r[j]? = some d → cur[k * sz + j]? = some (cv k j) ∧ (cv k j).oneCell' = true ∧ Fz S.lim w (cv k j) d := fun k j => Classical.choose_spec (hex k j)
  refine .sl cv h.le h.max (fun k r hr => h.each r (List.mem_of_getElem? hr)) (fun k r j d hr hd => ?_) (fun k r j d hr hd => ht (hcv k j r d hr hd).2.2)
  obtain ⟨h1, h2, _⟩ := hcv k j r d hr hd
  have hk : k < rows.length := (List.getElem?_eq_some_iff.1 hr).1
  have hj : j < sz := by rw [← h.each r (List.mem_of_getElem? hr)]; exact (List.getElem?_eq_some_iff.1 hd).1
  have hks : (k + 1) * sz ≤ rows.length * sz := Nat.mul_le_mul_right _ hk
  rw [Nat.add_mul] at hks
  refine ⟨by rw [cell_of_row w' b _ cur e (0, 0) (hh.trans h.heap), Nat.zero_add]; exact h1, ?_, h2⟩
  rw [Nat.zero_add]
  exact hl' _ (by omega)
theorem Rep.sl_inv {S : Sig} {w : World} {p : Place} {v : Value} {m sz : Nat} {rows : List (List D)} (h : Rep S w p v (.sl (m + 1) sz rows)) : (v = .slice none 0 0 ∧ rows = []) ∨ ∃ b cap cur e, v = .slice (some ⟨b, 0, none⟩) rows.length cap ∧ OwnAt S w p b cap (m + 1) sz rows cur e := by
  cases h with
  | fz h => cases h with | slNil => exact .inl ⟨rfl, rfl⟩
  | own g => exact .inr ⟨_, _, _, _, rfl, g⟩
theorem no_men_sl {m sz t : Nat} {rows : List (List D)} : ¬ Men t (.sl m sz rows) := fun h => by cases h
/-- Nothing is owned by a nil slice: the slot may be read otherwise. -/
theorem FR.renil {S : Sig} {w : World} {a : Act} {fr : List D} (h : FR S w a fr) {u : Nat} {d0 : D} (hd : fr[u]? = some d0) (hn : d0.isObj = false) (hv : a.tmps[u]? = some (.slice none 0 0)) {r r0 : D} (hr : r = .any ∨ r = .nil ∨ ∃ m sz, r = .sl m sz []) (hr0 : r0 = .any ∨ r0 = .nil ∨ ∃ m sz, r0 = .sl m sz []) :
    FR S w a ((fr.map (unal u r)).set u r0) := by
  have hlt : u < fr.length := (List.getElem?_eq_some_iff.1 hd).1
  have fzr : ∀ r : D, (r = .any ∨ r = .nil ∨ ∃ m sz, r = .sl m sz []) → Fz S.lim w (.slice none 0 0) r := by
    rintro r (rfl | rfl | ⟨m, sz, rfl⟩)
    · exact .any _
    · exact .nil
    · exact .slNil m sz
  have hrk : ∀ e, RefOk fr e → RefOk ((fr.map (unal u r)).set u r0) e := fun e he x hx => by
    obtain ⟨cs, hc⟩ := he x hx
    have hxu : u ≠ x := fun e => by subst e; rw [hd] at hc; cases hc; cases hn
    exact ⟨cs, by rw [List.getElem?_set_ne hxu, List.getElem?_map, hc]; rfl⟩
  refine ⟨h.wf, by simp [h.size], h.defers, fun i e v hi hv' => ?_⟩
  by_cases hiu : i = u
  · subst hiu
    rw [List.getElem?_set_self (by simpa using hlt)] at hi
    rw [hv] at hv'
    cases hi; cases hv'
    exact SlotRep.of (.fz (fzr _ hr0)) fun t ht => ((fzr _ hr0).men ht).elim
  · rw [List.getElem?_set_ne (Ne.symm hiu), List.getElem?_map] at hi
    cases hfi : fr[i]? with
    | none => rw [hfi] at hi; cases hi
    | some e0 =>
      rw [hfi] at hi
      cases hi
      have hs := h.slot i e0 v hfi hv'
      cases e0 with
      | al x =>
        obtain ⟨h1, d', h2, h3, h4⟩ := hs
        by_cases hxu : x = u
        · subst hxu
          rw [hv] at h1
          cases h1
          simp only [unal, if_true]
          exact SlotRep.of (.fz (fzr _ hr)) fun t ht => ((fzr _ hr).men ht).elim
        · simp only [unal, if_neg hxu]
          refine ⟨h1, d', ?_, h3, h4⟩
          rw [List.getElem?_set_ne (Ne.symm hxu), List.getElem?_map, h2]
          cases d' <;> first | rfl | cases h3
      | _ => exact ⟨hs.1, hrk _ hs.2⟩
/-- What a slot holds is forgotten. -/
theorem FR.forget {S : Sig} {w : World} {a : Act} {fr : List D} (h : FR S w a fr) {u : Nat} {d0 : D} (hd : fr[u]? = some d0) (hn : d0.isObj = false) : FR S w a ((fr.map (unal u .any)).set u .any) := by
  have hlt : u < fr.length := (List.getElem?_eq_some_iff.1 hd).1
  have hrk : ∀ e, RefOk fr e → RefOk ((fr.map (unal u .any)).set u .any) e := fun e he x hx => by
    obtain ⟨cs, hc⟩ := he x hx
    have hxu : u ≠ x := fun e => by subst e; rw [hd] at hc; cases hc; cases hn
    exact ⟨cs, by rw [List.getElem?_set_ne hxu, List.getElem?_map, hc]; rfl⟩
  refine ⟨h.wf, by simp [h.size], h.defers, fun i e v hi hv' => ?_⟩
  by_cases hiu : i = u
  · subst hiu
    rw [List.getElem?_set_self (by simpa using hlt)] at hi
    cases hi
    exact SlotRep.of (.fz (.any _)) fun t ht => by cases ht
  · rw [List.getElem?_set_ne (Ne.symm hiu), List.getElem?_map] at hi
    cases hfi : fr[i]? with
    | none => rw [hfi] at hi; cases hi
    | some e0 =>
      rw [hfi] at hi
      cases hi
      have hs := h.slot i e0 v hfi hv'
      cases e0 with
      | al x =>
        obtain ⟨h1, d', h2, h3, h4⟩ := hs
        by_cases hxu : x = u
        · simp only [unal, if_pos hxu]
          exact SlotRep.of (.fz (.any _)) fun t ht => by cases ht
        · simp only [unal, if_neg hxu]
          refine ⟨h1, d', ?_, h3, h4⟩
          rw [List.getElem?_set_ne (Ne.symm hxu), List.getElem?_map, h2]
          cases d' <;> first | rfl | cases h3
      | _ => exact ⟨hs.1, hrk _ hs.2⟩
/-- What the slot owns is frozen: from now on nobody writes it. -/
theorem FR.freeze {S : Sig} {w : World} {a : Act} {fr : List D} (h : FR S w a fr) {u m sz : Nat} {rows : List (List D)} (hd : fr[u]? = some (.sl (m + 1) sz rows)) :
    ∃ S', Trans S w S' w ∧ FR S' w a ((fr.map (unal u (.sl 0 sz rows))).set u (.sl 0 sz rows)) := by
  obtain ⟨v, hv, hs⟩ := h.at hd
  rcases hs.1.sl_inv with ⟨rfl, rfl⟩ | ⟨b, cap, cur, e, rfl, g⟩
  · exact ⟨S, Trans.refl S w, h.renil hd rfl hv (.inr (.inr ⟨_, _, rfl⟩)) (.inr (.inr ⟨_, _, rfl⟩))⟩
  · have hb : BT S w (S.set b none) w b := BT.ghost h.wf g.own (by simp [Place.slot]) (fun y hy => by cases hy)
    have hf : Fz (S.set b none).lim w (.slice (some ⟨b, 0, none⟩) rows.length cap) (.sl 0 sz rows) := g.fz2 (fun h => h.trans hb.tr) rfl (fun k _ s hs => by simp [Sig.lim, S.set_at] at hs)
    refine ⟨_, hb.tr, h.rebuild hb g.own rfl hd rfl (fun v' p hv' => ?_) (fun t => no_men_sl) (fun v' hv' => ?_) (fun t => no_men_sl)⟩
    all_goals
      rw [hv] at hv'
      cases hv'
      exact .fz hf
/-- From now on nobody writes the elements. -/
theorem FR.down {S : Sig} {w : World} {a : Act} {fr : List D} (h : FR S w a fr) {u sz : Nat} {rows : List (List D)} (hd : fr[u]? = some (.sl 2 sz rows)) :
    ∃ S', Trans S w S' w ∧ FR S' w a (fr.set u (.sl 1 sz rows)) := by
  obtain ⟨v, hv, hs⟩ := h.at hd
  rcases hs.1.sl_inv with ⟨rfl, rfl⟩ | ⟨b, cap, cur, e, rfl, g⟩
  · refine ⟨S, Trans.refl S w, ⟨h.wf, by simp [h.size], h.defers, fun i e v hi hv' => ?_⟩⟩
    have hlt : u < fr.length := (List.getElem?_eq_some_iff.1 hd).1
    have hrk : ∀ e, RefOk fr e → RefOk (fr.set u (.sl 1 sz [])) e := fun e he x hx => by
      obtain ⟨cs, hc⟩ := he x hx
      have hxu : u ≠ x := fun e => by subst e; rw [hd] at hc; cases hc
      exact ⟨cs, by rw [List.getElem?_set_ne hxu]; exact hc⟩
    by_cases hiu : i = u
    · subst hiu
      rw [List.getElem?_set_self hlt] at hi
      rw [hv] at hv'
      cases hi; cases hv'
      exact SlotRep.of (.fz (.slNil 1 sz)) fun t ht => (no_men_sl ht).elim
    · rw [List.getElem?_set_ne (Ne.symm hiu)] at hi
      have hs := h.slot i e v hi hv'
      cases e with
      | al x =>
        obtain ⟨h1, d', h2, h3, h4⟩ := hs
        by_cases hxu : x = u
        · subst hxu
          exact ⟨h1, _, by rw [List.getElem?_set_self hlt], rfl, h4⟩
        · exact ⟨h1, d', by rw [List.getElem?_set_ne (Ne.symm hxu)]; exact h2, h3, h4⟩
      | _ => exact ⟨hs.1, hrk _ hs.2⟩
  · have hown := g.own
    simp only [if_true] at hown
    have hb : BT S w (S.set b (some (.slot u, rows.length * sz))) w b := BT.ghost h.wf g.own (by simp [Place.slot]) (fun y hy => by cases hy; simp)
    refine ⟨_, hb.tr, h.reown hb g.own rfl hd rfl (fun v' hv' => ?_) (fun t => no_men_sl) rfl⟩
    rw [hv] at hv'
    cases hv'
    refine .own ⟨.inl rfl, g.heap, g.le, g.max, g.size, g.each, by rw [S.set_at]; rfl, fun k r j d k1 k2 => ?_⟩
    obtain ⟨x, x1, x2, x3⟩ := g.cells k r j d k1 k2
    exact ⟨x, x1, x2, x3.trans hb.tr⟩
/-- What a slot owns goes over to another slot. -/
theorem FR.take {S : Sig} {w : World} {a : Act} {fr : List D} (h : FR S w a fr) {u m sz : Nat} (p : Place) {rows : List (List D)} (hd : fr[u]? = some (.sl (m + 1) sz rows)) :
    ∃ S' v, Trans S w S' w ∧ a.tmps[u]? = some v ∧ FR S' w a ((fr.map (unal u .any)).set u .any) ∧ Rep S' w p v (.sl (m + 1) sz rows) := by
  obtain ⟨v, hv, hs⟩ := h.at hd
  rcases hs.1.sl_inv with ⟨rfl, rfl⟩ | ⟨b, cap, cur, e, rfl, g⟩
  · exact ⟨S, _, Trans.refl S w, hv, h.renil hd rfl hv (.inl rfl) (.inl rfl), .fz (.slNil _ _)⟩
  · have hb : BT S w (S.set b (some (p, if m + 1 = 2 then 0 else rows.length * sz))) w b := BT.ghost h.wf g.own (by simp [Place.slot]) (fun y hy => by cases hy; simp)
    refine ⟨_, _, hb.tr, hv, h.rebuild hb g.own rfl hd rfl (fun v' p hv' => .fz (.any _)) (fun t ht => by cases ht) (fun v' hv' => .fz (.any _)) (fun t ht => by cases ht), ?_⟩
    refine .own ⟨g.mode, g.heap, g.le, g.max, g.size, g.each, by rw [S.set_at], fun k r j d k1 k2 => ?_⟩
    obtain ⟨x, x1, x2, x3⟩ := g.cells k r j d k1 k2
    exact ⟨x, x1, x2, x3.trans hb.tr⟩
theorem FR.takeMp {S : Sig} {w : World} {a : Act} {fr : List D} (h : FR S w a fr) {u : Nat} (p : Place) {kd : KD} {es : List (Value × Value)} (hd : fr[u]? = some (.mp kd es)) :
    ∃ S' v, Trans S w S' w ∧ a.tmps[u]? = some v ∧ FR S' w a ((fr.map (unal u .any)).set u .any) ∧ Rep S' w p v (.mp kd es) := by
  obtain ⟨v, hv, hs⟩ := h.at hd
  obtain ⟨b, clock, ents, rfl, hb, hh, he, hk⟩ := hs.1.mp_inv
  have hbt : BT S w (S.set b (some (p, 0))) w b := BT.ghost h.wf hb (by simp [Place.slot]) (fun y hy => by cases hy; simp)
  exact ⟨_, _, hbt.tr, hv, h.rebuild hbt hb rfl hd rfl (fun v' p hv' => .fz (.any _)) (fun t ht => by cases ht) (fun v' hv' => .fz (.any _)) (fun t ht => by cases ht), .mp (S.set_at _ _) hh he hk⟩
/-- The map of a slot is written. -/
theorem FR.setMap {S : Sig} {w : World} {a : Act} {fr : List D} (h : FR S w a fr) {u b clock clock' : Nat} {kd : KD} {es es' : List (Value × Value)} {ents ents' : Array MapEntry} (hd : fr[u]? = some (.mp kd es)) (hv : a.tmps[u]? = some (.map (some b))) (hb : S.own b = some (.slot u, 0)) (hh : w.heap[b]? = some (.map ents clock)) (he : ents'.toList.map pr = es') (hk : ∀ x ∈ es', fitK kd x.1 = true) :
    Trans S w S (World.setMap w b (.map ents' clock')) ∧ FR S (World.setMap w b (.map ents' clock')) a (fr.set u (.mp kd es')) := by
  obtain ⟨h1, h2⟩ := MapKept.heap_set (o' := .map ents' clock') hh
  have other : ∀ c, c ≠ b → (World.setMap w b (.map ents' clock')).heap[c]? = w.heap[c]? := h2
  have hsz : (World.setMap w b (.map ents' clock')).heap.size = w.heap.size := by simp [World.setMap]
  have htr : Trans S w S (World.setMap w b (.map ents' clock')) := by
    refine ⟨rfl, rfl, rfl, by rw [hsz]; exact Nat.le_refl _, fun k hk hn => ⟨other k (fun e => by subst e; rw [hb] at hn; cases hn), hn⟩, fun k p l hk hs hp => ⟨other k (fun e => by subst e; rw [hb] at hs; cases hs; simp [Place.slot] at hp), hs⟩, fun k p l hk hs => ⟨?_, fun x hx => by rw [hs] at hx; cases hx; exact Nat.le_refl _⟩, rfl⟩
    by_cases hkb : k = b
    · subst hkb
      intro cur e fz h3
      rw [hh] at h3
      cases h3
    · exact Keeps.of_eq (other k hkb)
  have hbt : BT S w S (World.setMap w b (.map ents' clock')) b := ⟨htr, fun k x hx => by rw [hsz]; exact h.wf k x hx, rfl, fun k _ hne => other k hne, fun k _ _ => rfl⟩
  refine ⟨htr, h.reown hbt hb rfl hd rfl (fun v' hv' => ?_) (fun t ht => by cases ht) rfl⟩
  rw [hv] at hv'
  cases hv'
  exact .mp hb h1 he hk
theorem putV_fit {kd : KD} {k v : Value} (hk : fitK kd k = true) : ∀ {es : List (Value × Value)}, (∀ x ∈ es, fitK kd x.1 = true) → ∀ x ∈ putV k v es, fitK kd x.1 = true
  | [], _, x, hx => by
    simp only [putV, List.mem_singleton] at hx
    subst hx
    exact hk
  | e :: es, h, x, hx => by
    simp only [putV] at hx
    split at hx
    · rcases List.mem_cons.1 hx with rfl | hx
      · exact hk
      · exact h x (by simp [hx])
    · rcases List.mem_cons.1 hx with rfl | hx
      · exact h _ (by simp)
      · exact putV_fit hk (fun y hy => h y (by simp [hy])) x hx
theorem delV_fit {kd : KD} {k : Value} : ∀ {es : List (Value × Value)}, (∀ x ∈ es, fitK kd x.1 = true) → ∀ x ∈ delV k es, fitK kd x.1 = true
  | [], _, x, hx => by cases hx
  | e :: es, h, x, hx => by
    simp only [delV] at hx
    split at hx
    · exact h x (by simp [hx])
    · rcases List.mem_cons.1 hx with rfl | hx
      · exact h _ (by simp)
      · exact delV_fit (fun y hy => h y (by simp [hy])) x hx
/-- A slot that owned something takes another value. -/
theorem FR.putOwn {S : Sig} {w : World} {a : Act} {fr : List D} (h : FR S w a fr) {t : Nat} {v : Value} {d d0 : D} (h0 : fr[t]? = some d0) (hn : d0.isObj = false) (hr : Rep S w (.slot t) v d) (hf : RefOk fr d) :
    FR S w (a.put (some t) v) ((fr.map (unal t .any)).set t d) := by
  have hlt : t < fr.length := (List.getElem?_eq_some_iff.1 h0).1
  have hrk : ∀ e, RefOk fr e → RefOk ((fr.map (unal t .any)).set t d) e := fun e he x hx => by
    obtain ⟨cs, hc⟩ := he x hx
    have hxt : t ≠ x := fun e => by subst e; rw [h0] at hc; cases hc; cases hn
    exact ⟨cs, by rw [List.getElem?_set_ne hxt, List.getElem?_map, hc]; rfl⟩
  refine ⟨h.wf, by simp [Act.put, h.size], by simp [Act.put, h.defers], fun i e u hi hu => ?_⟩
  by_cases hit : i = t
  · subst hit
    rw [List.getElem?_set_self (by simpa using hlt)] at hi
    rw [put_tmps_eq (by rw [h.size]; exact hlt)] at hu
    cases hi; cases hu
    exact SlotRep.of hr (hrk _ hf)
  · rw [List.getElem?_set_ne (Ne.symm hit), List.getElem?_map] at hi
    rw [put_tmps_ne hit] at hu
    cases hfi : fr[i]? with
    | none => rw [hfi] at hi; cases hi
    | some e0 =>
      rw [hfi] at hi
      cases hi
      have hs := h.slot i e0 u hfi hu
      cases e0 with
      | al x =>
        obtain ⟨h1, d', h2, h3, h4⟩ := hs
        by_cases hxt : x = t
        · simp only [unal, if_pos hxt]
          exact SlotRep.of (.fz (.any _)) fun t ht => by cases ht
        · simp only [unal, if_neg hxt]
          refine ⟨by rw [put_tmps_ne hxt]; exact h1, d', ?_, h3, h4⟩
          rw [List.getElem?_set_ne (Ne.symm hxt), List.getElem?_map, h2]
          cases d' <;> first | rfl | cases h3
      | _ => exact ⟨hs.1, hrk _ hs.2⟩
end Go.Proofs.YtdopillligfdiaaDoor
