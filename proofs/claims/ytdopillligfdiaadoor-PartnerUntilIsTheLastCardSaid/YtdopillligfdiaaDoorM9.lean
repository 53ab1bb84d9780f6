/- An append to what a slot owns. -/
import Derived.Test.YtdopillligfdiaaDoorM8
namespace Go.Proofs.YtdopillligfdiaaDoor
set_option linter.unusedSimpArgs false
set_option linter.unusedVariables false
open Go.RowKit

section
variable {P : Program} (w : World)
theorem run_room (t ty e e0 : TypeId) (i : TypeInfo) (ht : P.underlying t = some (.slice e)) (hi : P.info? e = some i)
    (g sLen sCap : Nat) (cur : Array Value) (hg : w.heap[g]? = some (.cells cur e0 (0, 0)))
    (a : Addr) (m c : Nat) (news : List Value) (hl : news.length = m * i.size) (hnews : ∀ (j : Nat) (u : Value), news[j]? = some u → w.cell? (a.add j) = some u) (h1 : ∀ u ∈ news, u.oneCell' = true)
    (hroom : sLen + m ≤ sCap) (hfit : sLen * i.size + news.length ≤ cur.size) :
    (Builtin.append_ #[t, t] ty #[.slice (some ⟨g, 0, none⟩) sLen sCap, .slice (some a) m c]).run P w =
      .ok (.slice (some ⟨g, 0, none⟩) (sLen + m) sCap) (w.setRow g (cur.toList.take (sLen * i.size) ++ news ++ cur.toList.drop (sLen * i.size + news.length)).toArray) := by
  have hf := run_firstCells_some (P := P) w i.size m a m c news hl hnews
  have hst := run_storeCells_at P g (sLen * i.size) e0 news 0 cur w hg (by simpa using hfit) h1
  simp only [Nat.add_zero] at hst
  simp [Builtin.append_, run_underlying ht, sizeOf, typeInfo, hi, Builtin.lenOf, hroom, hf, Addr.add_lit, hst]
theorem run_room_none (t ty e : TypeId) (i : TypeInfo) (ht : P.underlying t = some (.slice e)) (hi : P.info? e = some i) (A A2 : Option Addr) (sLen sCap : Nat) (hle : sLen ≤ sCap) :
    (Builtin.append_ #[t, t] ty #[.slice A sLen sCap, .slice A2 0 0]).run P w = .ok (.slice A sLen sCap) w := by
  cases A <;> cases A2 <;> simp [Builtin.append_, run_underlying ht, sizeOf, typeInfo, hi, Builtin.lenOf, hle, Builtin.firstCells, storeCells, loadCells, loadCellsFrom]
end
/-- The cells of a slice that is read. -/
theorem Rep.source {S : Sig} {w : World} {q : Place} {v : Value} {m sz : Nat} {rows : List (List D)} (h : Rep S w q v (.sl m sz rows)) :
    (∃ A, v = .slice A 0 0 ∧ rows = []) ∨ ∃ (b o c : Nat) (news : List Value), v = .slice (some ⟨b, o, none⟩) rows.length c ∧ news.length = rows.length * sz ∧ (∀ (j : Nat) (u : Value), news[j]? = some u → w.cell? ⟨b, o + j, none⟩ = some u) ∧ (∀ u : Value, u ∈ news → u.oneCell' = true) ∧
      (∀ r ∈ rows, r.length = sz) ∧ ∀ (k : Nat) (r : List D) (j : Nat) (d : D), rows[k]? = some r → r[j]? = some d → ∃ u, news[k * sz + j]? = some u ∧ Fz S.lim w u d := by
  cases h with
  | fz h =>
    cases h with
    | slNil => exact .inl ⟨_, rfl, rfl⟩
    | slE => exact .inl ⟨_, rfl, rfl⟩
    | @sl b o cap _ _ cv hc hm hr hh ih =>
      have hallr : ∀ r ∈ rows, r.length = sz := fun r hr' => by
        obtain ⟨k, hk, rfl⟩ := List.mem_iff_getElem.1 hr'
        exact hr k _ (List.getElem?_eq_getElem hk)
      have hcell : ∀ i, i < rows.length * sz → ∃ r d, rows[i / sz]? = some r ∧ r[i % sz]? = some d ∧ i / sz * sz + i % sz = i := fun i hi => by
        have hz : 0 < sz := by
          rcases Nat.eq_zero_or_pos sz with h | h
          · rw [h] at hi; omega
          · exact h
        have hk : i / sz < rows.length := (Nat.div_lt_iff_lt_mul hz).2 hi
        have hj : i % sz < (rows[i / sz]).length := by rw [hallr _ (List.getElem_mem hk)]; exact Nat.mod_lt _ hz
        exact ⟨_, _, List.getElem?_eq_getElem hk, List.getElem?_eq_getElem hj, Nat.div_add_mod' i sz⟩
      refine .inr ⟨b, o, cap, (List.range (rows.length * sz)).map fun i => cv (i / sz) (i % sz), rfl, by simp, fun j u hu => ?_, fun u hu => ?_, hallr, fun k r j d hk hd => ?_⟩
      · have hj : j < rows.length * sz := by have := (List.getElem?_eq_some_iff.1 hu).1; simpa using this
        rw [List.getElem?_map, List.getElem?_range hj] at hu
        cases hu
        obtain ⟨r, d, h1, h2, h3⟩ := hcell j hj
        have := (hh _ r _ d h1 h2).1
        rwa [Nat.add_assoc, h3] at this
      · obtain ⟨i, hi, rfl⟩ := List.mem_map.1 hu
        obtain ⟨r, d, h1, h2, _⟩ := hcell i (List.mem_range.1 hi)
        exact (hh _ r _ d h1 h2).2.2
      · have hkl : k < rows.length := (List.getElem?_eq_some_iff.1 hk).1
        have hj : j < sz := by rw [← hallr r (List.mem_of_getElem? hk)]; exact (List.getElem?_eq_some_iff.1 hd).1
        have hlt : k * sz + j < rows.length * sz := by
          have : (k + 1) * sz ≤ rows.length * sz := Nat.mul_le_mul_right _ hkl
          rw [Nat.add_mul] at this
          omega
        refine ⟨cv k j, ?_, ih k r j d hk hd⟩
        rw [List.getElem?_map, List.getElem?_range hlt]
        have e1 : (k * sz + j) / sz = k := by rw [Nat.mul_comm, Nat.mul_add_div (by omega), Nat.div_eq_of_lt hj]; omega
        have e2 : (k * sz + j) % sz = j := by rw [Nat.mul_comm, Nat.mul_add_mod]; exact Nat.mod_eq_of_lt hj
        simp only [Option.map_some, e1, e2]
  | @own _ b cap _ _ _ cur e g =>
    refine .inr ⟨b, 0, cap, cur.toList.take (rows.length * sz), rfl, ?_, fun j u hu => ?_, fun u hu => ?_, g.each, fun k r j d hk hd => ?_⟩
    · have : rows.length * sz ≤ cap * sz := Nat.mul_le_mul_right _ g.le
      have e : cur.toList.length = cap * sz := by rw [Array.length_toList, g.size]
      rw [List.length_take, e]
      omega
    · rw [List.getElem?_take] at hu
      split at hu
      · rw [cell_of_row w b _ cur e (0, 0) g.heap, Nat.zero_add]
        simpa using hu
      · cases hu
    · obtain ⟨i, hi, rfl⟩ := List.mem_iff_getElem.1 hu
      have hi' : i < rows.length * sz := by rw [List.length_take] at hi; omega
      have hz : 0 < sz := by
        rcases Nat.eq_zero_or_pos sz with h | h
        · rw [h] at hi'; omega
        · exact h
      have hk : i / sz < rows.length := (Nat.div_lt_iff_lt_mul hz).2 hi'
      have hj : i % sz < (rows[i / sz]).length := by rw [g.each _ (List.getElem_mem hk)]; exact Nat.mod_lt _ hz
      obtain ⟨x, x1, x2, _⟩ := g.cells _ _ _ _ (List.getElem?_eq_getElem hk) (List.getElem?_eq_getElem hj)
      rw [Nat.div_add_mod'] at x1
      have : (cur.toList.take (rows.length * sz))[i] = x := by
        rw [List.getElem_take]
        have := (Array.getElem?_eq_some_iff.1 x1).2
        simpa using this
      rw [this]
      exact x2
    · obtain ⟨x, x1, _, x3⟩ := g.cells k r j d hk hd
      have hkl : k < rows.length := (List.getElem?_eq_some_iff.1 hk).1
      have hj : j < sz := by rw [← g.each r (List.mem_of_getElem? hk)]; exact (List.getElem?_eq_some_iff.1 hd).1
      have hlt : k * sz + j < rows.length * sz := by
        have : (k + 1) * sz ≤ rows.length * sz := Nat.mul_le_mul_right _ hkl
        rw [Nat.add_mul] at this
        omega
      exact ⟨x, by rw [List.getElem?_take, if_pos hlt]; simpa using x1, x3⟩
/-- Elements behind elements. -/
theorem rows_append {S : Sig} {w : World} {n sz : Nat} {rows rows2 : List (List D)} {xs news : List Value} (hn : rows.length = n) (hx : xs.length = n * sz) (h1 : ∀ (k : Nat) (r : List D) (j : Nat) (d : D), rows[k]? = some r → r[j]? = some d → ∃ u, xs[k * sz + j]? = some u ∧ u.oneCell' = true ∧ Fz S.lim w u d)
    (h2 : ∀ (k : Nat) (r : List D) (j : Nat) (d : D), rows2[k]? = some r → r[j]? = some d → ∃ u, news[k * sz + j]? = some u ∧ u.oneCell' = true ∧ Fz S.lim w u d) (he : ∀ r ∈ rows, r.length = sz) :
    ∀ (k : Nat) (r : List D) (j : Nat) (d : D), (rows ++ rows2)[k]? = some r → r[j]? = some d → ∃ u, (xs ++ news)[k * sz + j]? = some u ∧ u.oneCell' = true ∧ Fz S.lim w u d := by
  subst hn
  intro k r j d hk hd
  by_cases hkn : k < rows.length
  · rw [List.getElem?_append_left hkn] at hk
    obtain ⟨u, u1, u2⟩ := h1 k r j d hk hd
    refine ⟨u, ?_, u2⟩
    have hj : j < sz := by rw [← he r (List.mem_of_getElem? hk)]; exact (List.getElem?_eq_some_iff.1 hd).1
    have : (k + 1) * sz ≤ rows.length * sz := Nat.mul_le_mul_right _ hkn
    rw [Nat.add_mul] at this
    rw [List.getElem?_append_left (by omega)]
    exact u1
  · rw [List.getElem?_append_right (by omega)] at hk
    obtain ⟨u, u1, u2⟩ := h2 _ r j d hk hd
    refine ⟨u, ?_, u2⟩
    have : (k - rows.length) * sz + rows.length * sz = k * sz := by rw [← Nat.add_mul]; congr 1; omega
    rw [List.getElem?_append_right (by omega), ← u1, hx]
    congr 1
    omega
/-- A new block of one's own. -/
theorem fresh_own {S : Sig} {w w' : World} (hw : WF S w) (hx : Ext w w') {p : Place} {g cap sz m : Nat} {e : TypeId} {CUR : Array Value} {rows : List (List D)} {xs : List Value} (hg : g = w.heap.size) (hh : w'.heap[g]? = some (.cells CUR e (0, 0))) (hm : m = 1 ∨ m = 2) (hle : rows.length ≤ cap) (hmax : cap ≤ maxLen) (hsz : CUR.size = cap * sz)
    (ht : CUR.toList.take (rows.length * sz) = xs) (he : ∀ r ∈ rows, r.length = sz) (hr : ∀ (k : Nat) (r : List D) (j : Nat) (d : D), rows[k]? = some r → r[j]? = some d → ∃ u, xs[k * sz + j]? = some u ∧ u.oneCell' = true ∧ Fz S.lim w u d) :
    ∃ S', PT S w S' w' ∧ Rep S' w' p (.slice (some ⟨g, 0, none⟩) rows.length cap) (.sl m sz rows) := by
  let S' : Sig := ⟨fun b => if b = g then some (p, if m = 2 then 0 else rows.length * sz) else S.own b, S.loc⟩
  have hlt : g < w'.heap.size := (Array.getElem?_eq_some_iff.1 hh).1
  have hpt : PT S w S' w' := ⟨hx, fun b hb' => if_neg (by omega), rfl, fun b x hbx => by
    by_cases hbg : b = g
    · subst hbg; exact hlt
    · have : S.own b = some x := by simpa [S', hbg] using hbx
      exact Nat.lt_of_lt_of_le (hw b x this) hx.sizeOf⟩
  refine ⟨S', hpt, .own ⟨hm, hh, hle, hmax, hsz, he, by simp [S'], fun k r j d hk hd => ?_⟩⟩
  obtain ⟨u, u1, u2, u3⟩ := hr k r j d hk hd
  refine ⟨u, ?_, u2, u3.trans hpt.trans⟩
  rw [← ht, List.getElem?_take] at u1
  split at u1
  · simpa using u1
  · cases u1
section
variable {P : Program} {ty : TypeId} {pos : String} {after : Array Edge} {guard : Option (Nat × Bool)}
theorem wp_append_run {s x : Operand} {t : TypeId} {a : Act} {w w' : World} {v : Value} {dst : Option Tmp} {K : Act → World → Prop} {Q : Exit → Act → World → Prop} (hr : (Builtin.append_ #[t, t] ty #[a.eval s, a.eval x]).run P w = .ok v w') (hk : K (a.put dst v) w') : (Oper.mk dst (.call ⟨.builtin .append, #[s, x], #[t, t]⟩) ty pos after guard).wp P a w K Q := by
  unfold Oper.wp execOp
  simp only [resolve, invoke, builtin, Sem.run_bind, Sem.run_pure, Result.andThen_ok, List.map_toArray, List.map_cons, List.map_nil, hr]
  exact hk
/-- An append to nothing: what comes of it is one's own. -/
theorem append_nil {s x : Operand} {t e sz bytes : Nat} {zc : List Value} [TSlice P t e] [TElem P e sz bytes zc] {S : Sig} {w : World} (hw : WF S w) {a : Act} {q : Place} {m2 : Nat} {rows2 : List (List D)} (hs : a.eval s = .slice none 0 0) (hx : Rep S w q (a.eval x) (.sl m2 sz rows2)) (hl : rows2.length ≤ 1000000000) (hby : bytes ≤ 1000) {mm : Nat} (hmm : mm = 1 ∨ mm = 2)
    {dst : Option Tmp} {p : Place} {K : Act → World → Prop} {Q : Exit → Act → World → Prop} (hK : ∀ v S' w', PT S w S' w' → Rep S' w' p v (.sl mm sz rows2) → K (a.put dst v) w') : (Oper.mk dst (.call ⟨.builtin .append, #[s, x], #[t, t]⟩) ty pos after guard).wp P a w K Q := by
  obtain ⟨inf, z0, h1, h2, h3, h4, h5, h6⟩ := TElem.h (P := P) (e := e) (n := sz) (bytes := bytes) (zc := zc)
  have ht := TSlice.h (P := P) (t := t) (e := e)
  subst h3; subst h4
  rcases hx.source with ⟨A2, hv, rfl⟩ | ⟨b, o, c, news, hv, k1, k2, k3, k4, k5⟩
  · exact wp_append_run (by rw [hs, hv]; exact run_room_none w t ty e inf ht h1 none A2 0 0 (Nat.le_refl _)) (hK _ S w (PT.refl hw) (.fz (.slNil mm inf.size)))
  · rcases Nat.eq_zero_or_pos rows2.length with h0 | h0
    · have hn : news = [] := List.eq_nil_of_length_eq_zero (by rw [k1, h0]; simp)
      obtain rfl : rows2 = [] := List.eq_nil_of_length_eq_zero h0
      subst hn
      refine wp_append_run (w' := w) (v := .slice none 0 0) ?_ (hK _ S w (PT.refl hw) (.fz (.slNil mm inf.size)))
      rw [hs, hv]
      simp [Builtin.append_, run_underlying ht, sizeOf, typeInfo, h1, Builtin.lenOf, Builtin.firstCells, loadCells, loadCellsFrom]
    · have hmul : rows2.length * inf.bytes ≤ 1000000000 * 1000 := Nat.mul_le_mul hl hby
      have hr := run_append_nil (P := P) w t ty e inf z0 ht h1 h2 ⟨b, o, none⟩ rows2.length c news k1 (fun j u hu => by rw [show (⟨b, o, none⟩ : Addr).add j = ⟨b, o + j, none⟩ by unfold Addr.add; split <;> simp_all]; exact k2 j u hu) h0 (by omega) (by omega)
      refine wp_append_run (by rw [hs, hv]; exact hr) ?_
      have hge := grownCap_ge w rows2.length 0 e
      have hcm : grownCap w rows2.length 0 e ≤ maxLen := grownCap_le_maxLen w rows2.length 0 e (by unfold maxLen; omega)
      obtain ⟨S', hp, hrep⟩ := fresh_own (p := p) hw (w' := w.drew.alloc (.cells (news.toArray ++ Builtin.zeroCells z0.cells (grownCap w rows2.length 0 e - rows2.length)) e)) ((Ext.drew w).trans (Ext.alloc _ _)) rfl (heap_alloc_new w.drew _) hmm hge hcm
        (by simp only [Array.size_append, List.size_toArray, size_zeroCells, h5, k1, ← Nat.add_mul]; congr 1; omega) (xs := news) (by simp only [Array.toList_append]; rw [← k1]; exact List.take_left) k4 (fun k r j d hk hd => by
          obtain ⟨u, u1, u2⟩ := k5 k r j d hk hd
          exact ⟨u, u1, k3 u (List.mem_of_getElem? u1), u2⟩)
      exact hK _ S' _ hp hrep
/-- An append to what a slot owns: it goes over to what comes of it. -/
theorem append_own {s x : Operand} {t e sz bytes : Nat} {zc : List Value} [TSlice P t e] [TElem P e sz bytes zc] {S : Sig} {w : World} {a : Act} {fr : List D} (hF : FR S w a fr) {u m : Nat} {q : Place} {m2 : Nat} {rows rows2 : List (List D)} (hd : fr[u]? = some (.sl (m + 1) sz rows)) (hs : a.tmps[u]? = some (a.eval s))
    (hx : Rep S w q (a.eval x) (.sl m2 sz rows2)) (hl : rows.length + rows2.length ≤ 1000000000) (hby : bytes ≤ 1000) (hmm : m + 1 = 1 ∨ m + 1 = 2)
    {dst : Option Tmp} {p : Place} {K : Act → World → Prop} {Q : Exit → Act → World → Prop} (hK : ∀ v S' w', Trans S w S' w' → FR S' w' a ((fr.map (unal u .any)).set u .any) → Rep S' w' p v (.sl (m + 1) sz (rows ++ rows2)) → K (a.put dst v) w') : (Oper.mk dst (.call ⟨.builtin .append, #[s, x], #[t, t]⟩) ty pos after guard).wp P a w K Q := by
  obtain ⟨v, hv, hslot⟩ := hF.at hd
  obtain rfl : v = a.eval s := Option.some.inj (hv.symm.trans hs)
  obtain ⟨inf, z0, h1, h2, h3, h4, h5, h6⟩ := TElem.h (P := P) (e := e) (n := sz) (bytes := bytes) (zc := zc)
  have ht := TSlice.h (P := P) (t := t) (e := e)
  subst h3; subst h4
  have hmul : (rows.length + rows2.length) * inf.bytes ≤ 1000000000 * 1000 := Nat.mul_le_mul hl hby
  have hadd : ∀ b o j : Nat, (⟨b, o, none⟩ : Addr).add j = ⟨b, o + j, none⟩ := fun b o j => by unfold Addr.add; split <;> simp_all
  have hF1 := hF.forget hd rfl
  rcases hslot.1.sl_inv with ⟨hs0, rfl⟩ | ⟨b, cap, cur, e0, hs0, g⟩
  · exact append_nil hF.wf hs0 hx (by simpa using hl) hby hmm fun v S' w' hp hr => hK v S' w' hp.trans (hF1.drop hp) (by rw [List.nil_append]; exact hr)
  · rcases hx.source with ⟨A2, hxv, rfl⟩ | ⟨bx, ox, cx, news, hxv, k1, k2, k3, k4, k5⟩
    · obtain ⟨S', v', t1, t2, t3, t4⟩ := hF.take p hd
      obtain rfl : v' = a.eval s := Option.some.inj (t2.symm.trans hs)
      refine wp_append_run (w' := w) (v := a.eval s) ?_ (hK _ S' w t1 t3 (by rw [List.append_nil]; exact t4))
      rw [hxv, hs0]
      exact run_room_none w t ty e inf ht h1 _ A2 _ _ g.le
    · have hxs : (cur.toList.take (rows.length * inf.size)).length = rows.length * inf.size := by
        have e1 : cur.toList.length = cap * inf.size := by rw [Array.length_toList, g.size]
        have : rows.length * inf.size ≤ cap * inf.size := Nat.mul_le_mul_right _ g.le
        rw [List.length_take, e1]
        omega
      have hold : ∀ (k : Nat) (r : List D) (j : Nat) (d : D), rows[k]? = some r → r[j]? = some d → ∃ u, (cur.toList.take (rows.length * inf.size))[k * inf.size + j]? = some u ∧ u.oneCell' = true ∧ Fz S.lim w u d := fun k r j d hk hd' => by
        obtain ⟨x, x1, x2, x3⟩ := g.cells k r j d hk hd'
        have hkl : k < rows.length := (List.getElem?_eq_some_iff.1 hk).1
        have hj : j < inf.size := by rw [← g.each r (List.mem_of_getElem? hk)]; exact (List.getElem?_eq_some_iff.1 hd').1
        have hlt : k * inf.size + j < rows.length * inf.size := by
          have : (k + 1) * inf.size ≤ rows.length * inf.size := Nat.mul_le_mul_right _ hkl
          rw [Nat.add_mul] at this
          omega
        exact ⟨x, by rw [List.getElem?_take, if_pos hlt]; simpa using x1, x2, x3⟩
      have hall := rows_append (rows2 := rows2) (news := news) rfl hxs hold (fun k r j d hk hd' => by
        obtain ⟨u, u1, u2⟩ := k5 k r j d hk hd'
        exact ⟨u, u1, k3 u (List.mem_of_getElem? u1), u2⟩) g.each
      have heach : ∀ r ∈ rows ++ rows2, r.length = inf.size := fun r hr => by
        rcases List.mem_append.1 hr with hr | hr
        · exact g.each r hr
        · exact k4 r hr
      have hnews : ∀ (j : Nat) (u : Value), news[j]? = some u → w.cell? ((⟨bx, ox, none⟩ : Addr).add j) = some u := fun j u hu => by rw [hadd]; exact k2 j u hu
      by_cases hroom : rows.length + rows2.length ≤ cap
      · have hfit : rows.length * inf.size + news.length ≤ cur.size := by rw [k1, g.size, ← Nat.add_mul]; exact Nat.mul_le_mul_right _ hroom
        have hr := run_room (P := P) w t ty e e0 inf ht h1 b rows.length cap cur g.heap ⟨bx, ox, none⟩ rows2.length cx news k1 hnews k3 hroom hfit
        generalize hCUR : (cur.toList.take (rows.length * inf.size) ++ news ++ cur.toList.drop (rows.length * inf.size + news.length)).toArray = CUR at hr
        have hCs : CUR.size = cur.size := by
          rw [← hCUR]
          simp only [List.size_toArray, List.length_append, hxs, List.length_drop, Array.length_toList]
          omega
        have hCl : CUR.toList = cur.toList.take (rows.length * inf.size) ++ news ++ cur.toList.drop (rows.length * inf.size + news.length) := by rw [← hCUR]
        have hCk : ∀ off, off < rows.length * inf.size → CUR[off]? = cur[off]? := fun off ho => by
          rw [← Array.getElem?_toList, hCl, List.append_assoc, List.getElem?_append_left (by omega), List.getElem?_take, if_pos ho, Array.getElem?_toList]
        refine wp_append_run (by rw [hs0, hxv]; exact hr) ?_
        have hw' : (w.setRow b CUR).heap[b]? = some (.cells CUR e0 (0, 0)) := setRow_heap w b cur CUR e0 (0, 0) g.heap
        have hown := g.own
        let x : Place × Nat := (p, if m + 1 = 2 then 0 else (rows ++ rows2).length * inf.size)
        have hlx : (if m + 1 = 2 then 0 else rows.length * inf.size) ≤ x.2 := by
          simp only [x]
          split
          · exact Nat.le_refl _
          · exact Nat.mul_le_mul_right _ (by simp)
        have hb : BT S w (S.set b (some x)) (w.setRow b CUR) b := by
          refine ⟨⟨rfl, rfl, rfl, by simp, fun b' hb' hn => ?_, fun b' p' l hb' hs' hd' => ?_, fun b' p' l hb' hs' => ?_, rfl⟩, fun b' y hy => ?_, rfl, fun b' hb' hne => setRow_other w b b' CUR hne, fun b' hb' hne => S.set_ne _ hne⟩
          · have hne : b' ≠ b := fun e => by subst e; rw [hown] at hn; cases hn
            exact ⟨setRow_other w b b' CUR hne, by rw [S.set_ne _ hne]; exact hn⟩
          · have hne : b' ≠ b := fun e => by subst e; rw [hown] at hs'; cases hs'; simp [Place.slot] at hd'
            exact ⟨setRow_other w b b' CUR hne, by rw [S.set_ne _ hne]; exact hs'⟩
          · by_cases hne : b' = b
            · subst hne
              rw [hown] at hs'
              cases hs'
              refine ⟨fun cur1 e1 fz1 hc1 => ?_, fun y hy => ?_⟩
              · rw [g.heap] at hc1
                cases hc1
                refine ⟨CUR, hw', hCs, fun off ho => hCk off ?_⟩
                split at ho <;> omega
              · rw [S.set_at] at hy
                cases hy
                exact hlx
            · refine ⟨Keeps.of_eq (setRow_other w b b' CUR hne), fun y hy => ?_⟩
              rw [S.set_ne _ hne, hs'] at hy
              cases hy
              exact Nat.le_refl _
          · have hsz : (w.setRow b CUR).heap.size = w.heap.size := by simp
            rw [hsz]
            by_cases hne : b' = b
            · subst hne; exact hF.wf _ _ hown
            · rw [S.set_ne _ hne] at hy; exact hF.wf _ _ hy
        have hfin : Rep (S.set b (some x)) (w.setRow b CUR) p (.slice (some ⟨b, 0, none⟩) (rows ++ rows2).length cap) (.sl (m + 1) inf.size (rows ++ rows2)) := by
          refine .own ⟨hmm, hw', by simpa using hroom, g.max, by rw [hCs, g.size], heach, by rw [S.set_at], fun k r j d hk hd' => ?_⟩
          obtain ⟨y, y1, y2, y3⟩ := hall k r j d hk hd'
          refine ⟨y, ?_, y2, y3.trans hb.tr⟩
          rw [← Array.getElem?_toList, hCl, List.getElem?_append_left (List.getElem?_eq_some_iff.1 y1).1]
          exact y1
        rw [List.length_append] at hfin
        exact hK _ _ _ hb.tr (hF.rebuild hb hown rfl hd rfl (fun _ _ _ => .fz (.any _)) (fun t ht => by cases ht) (fun _ _ => .fz (.any _)) (fun t ht => by cases ht)) hfin
      · have holds : ∀ (j : Nat) (u : Value), (cur.toList.take (rows.length * inf.size))[j]? = some u → w.cell? ((⟨b, 0, none⟩ : Addr).add j) = some u := fun j u hu => by
          rw [hadd, cell_of_row w b _ cur e0 (0, 0) g.heap, Nat.zero_add]
          rw [List.getElem?_take] at hu
          split at hu
          · simpa using hu
          · cases hu
        have hr := run_append_grow (P := P) w t ty e inf z0 ht h1 h2 ⟨b, 0, none⟩ rows.length cap _ hxs holds ⟨bx, ox, none⟩ rows2.length cx news k1 hnews (by omega) (by omega) (growslice_fits (by omega) (by omega))
        refine wp_append_run (by rw [hs0, hxv]; exact hr) ?_
        have hge := grownCap_ge w (rows.length + rows2.length) cap e
        have hcm : grownCap w (rows.length + rows2.length) cap e ≤ maxLen := grownCap_le_maxLen w _ cap e (by unfold maxLen; omega)
        obtain ⟨S', hp, hrep⟩ := fresh_own (p := p) (m := m + 1) (sz := inf.size) (rows := rows ++ rows2) (xs := cur.toList.take (rows.length * inf.size) ++ news) hF.wf
          (w' := w.drew.alloc (.cells ((cur.toList.take (rows.length * inf.size)).toArray ++ news.toArray ++ Builtin.zeroCells z0.cells (grownCap w (rows.length + rows2.length) cap e - (rows.length + rows2.length))) e)) ((Ext.drew w).trans (Ext.alloc _ _)) rfl (heap_alloc_new w.drew _) hmm (by simpa using hge) hcm
          (by simp only [Array.size_append, List.size_toArray, size_zeroCells, h5, k1, hxs, ← Nat.add_mul]; congr 1; omega)
          (by simp only [Array.toList_append, List.append_assoc]; rw [← List.append_assoc, show (rows ++ rows2).length * inf.size = (cur.toList.take (rows.length * inf.size) ++ news).length by rw [List.length_append, List.length_append, hxs, k1, Nat.add_mul]]; exact List.take_left) heach hall
        rw [List.length_append] at hrep
        exact hK _ S' _ hp.trans (hF1.drop hp) hrep
end
end Go.Proofs.YtdopillligfdiaaDoor
