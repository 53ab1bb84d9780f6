/- Operations under guards, and regions in the order of the text. -/
import Derived.Test.YtdopillligfdiaaDoorM10
namespace Go.Proofs.YtdopillligfdiaaDoor
set_option linter.unusedSimpArgs false
set_option linter.unusedVariables false
open Go.RowKit

section
variable {P : Program} {T : Nat → Option TI} {Z : Nat → Option (List Value)} {M : Nat → Bool}
theorem wanted_cond {S : Sig} {w : World} {a : Act} {fr : List D} {l : List Oper} {o : Oper} {j : Nat} {want c : Bool} (h : FR S w a fr) (hg : o.guard = some (j, want)) (hc : condOf l fr j want = some c) : Region.wanted o (yielded l.toArray a.tmps) = c := by
  unfold condOf at hc
  split at hc
  · rename_i oj hj
    split at hc
    · rename_i t ht
      have hy : ∀ v, a.tmps[t]? = some v → ((l.toArray[j]?).bind (·.dst)).bind (a.tmps[·]?) = some v := fun v hv => by
        simp only [List.getElem?_toArray, hj, Option.bind_some, ht, hv]
      split at hc
      · rename_i b hd
        obtain ⟨v, hv, hs⟩ := h.at hd
        obtain rfl := hs.1.bool_inv
        refine wanted_at hg (hy _ hv) ?_
        cases want <;> simp only [Option.some.injEq] at hc <;> subst hc <;> simp [boolOf]
      · rename_i c0 b hd
        obtain ⟨v, hv, hs⟩ := h.at hd
        obtain ⟨k1, k0⟩ := hs.1.gd_inv
        refine wanted_at hg (hy _ hv) ?_
        cases c0 with
        | true =>
          obtain rfl := (Rep.fz (S := S) (p := .dead) (k1 rfl)).bool_inv
          cases want <;> simp only [Option.some.injEq] at hc <;> subst hc <;> simp [boolOf]
        | false =>
          rw [k0 rfl]
          cases want <;> simp only [Option.some.injEq] at hc <;> subst hc <;> simp [boolOf, undef]
      · cases hc
    · cases hc
  · cases hc
theorem gds_rep {S : Sig} {w : World} {a : Act} {fr : List D} (h : FR S w a fr) : ∀ (xs : List Operand), holds (gds (evalD fr) xs) → ∀ x ∈ xs, ∃ q, Rep S w q (a.eval x) (strip (evalD fr x))
  | [], _, x, hx => by cases hx
  | y :: xs, hg, x, hx => by
    simp only [gds] at hg
    have key : holds (gds (evalD fr) xs) ∧ ∃ q, Rep S w q (a.eval y) (strip (evalD fr y)) := by
      obtain ⟨q, hq⟩ := h.eval y
      split at hg
      · rename_i c d hy
        rw [hy] at hq ⊢
        split at hg
        · rename_i hn
          rw [hn]
          exact ⟨trivial, .dead, .fz (hq.gd_inv.1 hg)⟩
        · rename_i p hp
          rw [hp]
          exact ⟨hg.2, .dead, .fz (hq.gd_inv.1 hg.1)⟩
      · rename_i hn
        refine ⟨hg, q, ?_⟩
        generalize evalD fr y = d at hq hn ⊢
        cases d with
        | gd c d => exact absurd rfl (hn c d)
        | _ => exact hq
    rcases List.mem_cons.1 hx with rfl | hx
    · exact key.2
    · exact gds_rep h xs key.1 x hx
theorem refOk_gd {fr : List D} {c : Bool} {d : D} : RefOk fr (.gd c d) := fun t ht => by cases ht
theorem loadG_sound (hT : TOk P T Z) {S : Sig} {w : World} {a : Act} {fr : List D} {ty0 u off : Nat} {x : Operand} {c : Bool} {dst : Option Nat} {ty : TypeId} {pos : String} {after : Array Edge} {guard : Option (Nat × Bool)} {K : List D → Prop} (h : FR S w a fr) (hev : c = true → a.eval x = .pointer (some ⟨S.loc (u + 2), off, none⟩)) (hs : loadG T ty0 u off c dst fr K) :
    (c = true → StepOk P S w a (Oper.mk dst (.load ty0 x) ty pos after guard) K) ∧ (c = false → ∃ fr', K fr' ∧ FR S w (a.put dst undef) fr') := by
  have skip : ∀ {d : D}, putD fr dst (.gd c d) K → c = false → ∃ fr', K fr' ∧ FR S w (a.put dst undef) fr' := fun hp hc => by
    subst hc
    exact putD_sound h (.fz (.gd (fun e => by cases e) (fun _ => rfl))) refOk_gd hp
  unfold loadG at hs
  split at hs
  · rename_i cs hd
    obtain ⟨cv, hcv⟩ := h.loadObj hd
    split at hs
    · rename_i n fl ks ht
      haveI := (hT.ty _ _ ht).1
      split at hs
      · rename_i hb
        simp only [Bool.and_eq_true] at hb
        have hle := Nat.le_of_ble_eq_true hb.1
        refine ⟨fun hc K' Q hK => ?_, fun hc => skip hs hc⟩
        have hcell : ∀ j, j < n → ∃ d, ((cs.drop off).take n)[j]? = some d ∧ w.cell? ⟨S.loc (u + 2), off + j, none⟩ = some (cv (off + j)) ∧ (cv (off + j)).oneCell' = true ∧ Fz S.lim w (cv (off + j)) d := fun j hj => by
          have hjl : off + j < cs.length := by omega
          have hg : ((cs.drop off).take n)[j]? = some cs[off + j] := by rw [List.getElem?_take, if_pos hj, List.getElem?_drop, List.getElem?_eq_getElem hjl]
          obtain ⟨h1, h2, h3⟩ := hcv _ _ (List.getElem?_eq_getElem hjl)
          exact ⟨_, hg, h1, h2, D.one_fz h3 (List.all_eq_true.1 hb.2 _ (List.mem_of_getElem? hg))⟩
        have hfz : Fz S.lim w (.agg ((List.range n).map fun j => cv (off + j)).toArray) (.agg ((cs.drop off).take n)) := by
          refine .agg _ (by simp; omega) (fun v hv => ?_) fun j d v hj hv => ?_
          · obtain ⟨j, hj, rfl⟩ := List.mem_map.1 hv
            obtain ⟨d, _, _, h2, _⟩ := hcell j (List.mem_range.1 hj)
            exact h2
          · have hjn : j < n := by have := (List.getElem?_eq_some_iff.1 hv).1; simpa using this
            rw [List.getElem?_map, List.getElem?_range hjn] at hv
            cases hv
            obtain ⟨d', h1, _, _, h4⟩ := hcell j hjn
            rw [hj] at h1
            cases h1
            exact h4
        obtain ⟨fr', k1, k2⟩ := putD_sound (dst := dst) h (.fz (.gd (fun _ => hfz) (fun e => by rw [hc] at e; cases e))) refOk_gd hs
        refine r_loadN (cs := (List.range n).map fun j => cv (off + j)) (hev hc) (fun j v hv => ?_) (by simp) (hK fr' S w _ k1 (Trans.refl S w) k2)
        have hjn : j < n := by have := (List.getElem?_eq_some_iff.1 hv).1; simpa using this
        rw [List.getElem?_map, List.getElem?_range hjn] at hv
        cases hv
        obtain ⟨d', _, h2, _⟩ := hcell j hjn
        exact h2
      · exact hs.elim
    · rename_i i hi ht
      haveI := (hT.ty _ _ ht).one (fun n fl ks e => hi n fl ks e)
      split at hs
      · rename_i d hd'
        split at hs
        · rename_i ho
          refine ⟨fun hc K' Q hK => ?_, fun hc => skip hs hc⟩
          obtain ⟨h1, h2, h3⟩ := hcv _ _ hd'
          have hfz := D.one_fz h3 ho
          obtain ⟨fr', k1, k2⟩ := putD_sound (dst := dst) h (.fz (.gd (fun _ => hfz) (fun e => by rw [hc] at e; cases e))) refOk_gd hs
          exact r_load1 (hev hc) h1 (hK fr' S w _ k1 (Trans.refl S w) k2)
        · exact hs.elim
      · exact hs.elim
    · exact hs.elim
  · exact hs.elim
/-- One operation under a guard: carried out or passed over. -/
theorem gstep_sound (hT : TOk P T Z) {S : Sig} {w : World} {a : Act} {fr : List D} {o : Oper} {c : Bool} {K : List D → Prop} (h : FR S w a fr) (hs : gstepD P T Z o c fr K) :
    (c = true → StepOk P S w a o K) ∧ (c = false → ∃ fr', K fr' ∧ FR S w (a.put o.dst undef) fr') := by
  obtain ⟨dst, op, ty, pos, after, guard⟩ := o
  have skip : ∀ {d : D}, putD fr dst (.gd c d) K → c = false → ∃ fr', K fr' ∧ FR S w (a.put dst undef) fr' := fun hp hc => by
    subst hc
    exact putD_sound h (.fz (.gd (fun e => by cases e) (fun _ => rfl))) refOk_gd hp
  have rest : ∀ {xs : List Operand}, xs = op.operands.toList → (opD P T Z (fun x => strip (evalD fr x)) op fun s d => andO (under c (gds (evalD fr) xs) s) (match d.passes with | true => putD fr dst (.gd c d) K | false => False)) →
      (c = true → StepOk P S w a ⟨dst, op, ty, pos, after, guard⟩ K) ∧ (c = false → ∃ fr', K fr' ∧ FR S w (a.put dst undef) fr') := by
    intro xs hxs hs
    subst hxs
    obtain ⟨s, d, h1, h3⟩ := opD_sound (dst := dst) (ty := ty) (pos := pos) (after := after) (guard := guard) hT hs
    obtain ⟨h1, h2⟩ := andO_iff.1 h1
    split at h2
    · rename_i hp
      refine ⟨fun hc => ?_, fun hc => skip h2 hc⟩
      obtain ⟨hg, hs'⟩ := under_holds h1 hc
      intro K' Q hK
      refine h3 hs' S w a (dstPlace dst) h.wf (fun x hx => gds_rep h _ hg x hx) K' Q fun v S' w' hpt hr hm => ?_
      obtain ⟨fr', k1, k2⟩ := putD_sound (v := v) (h.drop hpt) (.fz (.gd (fun _ => hr.passes hp) (fun e => by rw [hc] at e; cases e))) refOk_gd h2
      exact hK fr' S' w' _ k1 hpt.trans k2
    · exact h2.elim
  have tmp_ev : ∀ {t : Nat} {v : Value}, a.tmps[t]? = some v → a.eval (.tmp t) = v := fun hv => by simp [Act.eval, Array.getD_eq_getD_getElem?, hv]
  unfold gstepD at hs
  simp only at hs
  split at hs
  · rename_i cc x y
    obtain ⟨s, r, hp, h12⟩ := pickD_inv hs
    obtain ⟨h1, h2⟩ := andO_iff.1 h12
    refine ⟨fun hc => ?_, fun hc => skip h2 hc⟩
    obtain ⟨hg, hs'⟩ := under_holds h1 hc
    obtain ⟨p, h3, h4⟩ := pickR_sound (gds_rep h [cc] hg cc (by simp)) (h.eval _) (h.eval _) hp hs'
    intro K' Q hK
    refine pick_run h3 ?_
    rw [h4]
    obtain ⟨fr', k1, k2⟩ := putD_sound (v := .bool r) h (.fz (.gd (fun _ => .bool r) (fun e => by rw [hc] at e; cases e))) refOk_gd h2
    exact hK fr' S w _ k1 (Trans.refl S w) k2
  · rename_i ty0 u i
    split at hs
    · rename_i ds hd
      split at hs
      · rename_i ht
        split at hs
        · rename_i off n ag hfl
          haveI := (hT.ty _ _ ht).2.1 _ _ _ _ hfl
          obtain ⟨r1, r2, _⟩ := ref_rep h hd off
          obtain ⟨_, _, r3⟩ := ref_rep h hd 0
          have hown : S.own (S.loc (u + 2)) = some (.slot u, 0) := by
            obtain ⟨v0, hv0, hs0⟩ := h.at hd
            obtain ⟨b, cur, e, _, hb, hloc, _⟩ := hs0.1.obj_inv
            rw [hloc]
            exact hb
          have hro : RefOk fr (.gref c u off) := fun t ht => by cases ht; exact ⟨ds, hd⟩
          refine ⟨fun hc K' Q hK => ?_, fun hc => ?_⟩
          · obtain ⟨fr', k1, k2⟩ := putD_sound (dst := dst) (v := .pointer (some ⟨S.loc (u + 2), off, none⟩)) h (.gref hown (by rw [if_pos hc])) hro hs
            refine r_fieldAddr (tmp_ev r3) (by rw [Nat.zero_add]; exact hK fr' S w _ k1 (Trans.refl S w) k2)
          · exact putD_sound h (.gref hown (by rw [if_neg (by rw [hc]; decide)])) hro hs
        · exact hs.elim
      · exact hs.elim
    · exact rest rfl hs
  · rename_i ty0 x
    split at hs
    · rename_i c' u off hd
      obtain ⟨hcc, hs⟩ := hs
      obtain ⟨v, hv, hsl⟩ := h.at hd
      refine loadG_sound hT h (fun hc => ?_) hs
      rw [tmp_ev hv]
      cases hsl.1 with
      | fz h => cases h
      | gref g hv => rw [hv, if_pos (hcc hc)]
    · rename_i ds hd
      obtain ⟨_, _, r3⟩ := ref_rep h hd 0
      exact loadG_sound hT h (fun _ => tmp_ev r3) hs
    · exact rest rfl hs
  · exact rest rfl hs
theorem vcOps_sound (hT : TOk P T Z) {l : List Oper} {Q : Exit → Act → World → Prop} {K : List D → Prop} : ∀ (r : List Oper) {S : Sig} {w : World} {a : Act} {fr : List D}, FR S w a fr → vcOps P T Z M l r fr K →
    (∀ fr' S' w' a', K fr' → Trans S w S' w' → FR S' w' a' fr' → Q .normal a' w') → wpList P l.toArray Q r a w
  | [], S, w, a, fr, h, hs, hK => wpList_nil (hK fr S w a hs (Trans.refl S w) h)
  | [o], S, w, a, fr, h, hs, hK => by
    simp only [vcOps] at hs
    split at hs
    · rename_i hg
      refine wpList_plain hg fun K' hK' => stepD_sound hT h hs K' Q fun fr' S' w' a' k t f => hK' _ _ (wpList_nil (hK fr' S' w' a' k t f))
    · rename_i j want hg
      split at hs
      · rename_i c hc
        have hw := wanted_cond h hg hc
        obtain ⟨g1, g0⟩ := gstep_sound hT h hs
        unfold wpList
        rw [hw]
        cases c with
        | true =>
          rw [if_pos rfl]
          exact .inl (g1 rfl _ Q fun fr' S' w' a' k t f => wpList_nil (hK fr' S' w' a' k t f))
        | false =>
          rw [if_neg (by simp)]
          obtain ⟨fr', k, f⟩ := g0 rfl
          exact wpList_nil (hK fr' S w _ k (Trans.refl S w) f)
      · exact hs.elim
  | o :: o2 :: r, S, w, a, fr, h, hs, hK => by
    simp only [vcOps] at hs
    split at hs
    · rename_i hg
      split at hs
      · rename_i ty hfa
        have hop : o.op = .alloc ty := by
          unfold isFrzAlloc at hfa
          split at hfa
          · rename_i ty' hop
            split at hfa
            · split at hfa
              · cases hfa
              · cases hfa; exact hop
            · cases hfa
          · cases hfa
        exact pairD_sound hT h hop hs hg fun fr' S' w' a' k t f => vcOps_sound hT r f k fun fr'' S'' w'' a'' k2 t2 f2 => hK fr'' S'' w'' a'' k2 (t.trans t2) f2
      · refine wpList_plain hg fun K' hK' => stepD_sound hT h hs K' Q fun fr' S' w' a' k t f => hK' _ _ ?_
        exact vcOps_sound hT (o2 :: r) f k fun fr'' S'' w'' a'' k2 t2 f2 => hK fr'' S'' w'' a'' k2 (t.trans t2) f2
    · rename_i j want hg
      split at hs
      · rename_i c hc
        have hw := wanted_cond h hg hc
        obtain ⟨g1, g0⟩ := gstep_sound hT h hs
        unfold wpList
        rw [hw]
        cases c with
        | true =>
          rw [if_pos rfl]
          exact .inl (g1 rfl _ Q fun fr' S' w' a' k t f => vcOps_sound hT (o2 :: r) f k fun fr'' S'' w'' a'' k2 t2 f2 => hK fr'' S'' w'' a'' k2 (t.trans t2) f2)
        | false =>
          rw [if_neg (by simp)]
          obtain ⟨fr', k, f⟩ := g0 rfl
          exact vcOps_sound hT (o2 :: r) f k hK
      · exact hs.elim
end
end Go.Proofs.YtdopillligfdiaaDoor
