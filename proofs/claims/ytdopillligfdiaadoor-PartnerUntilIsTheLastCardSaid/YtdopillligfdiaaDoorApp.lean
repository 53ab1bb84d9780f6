/- A slice that the call itself makes and appends to. -/
import Derived.Test.YtdopillligfdiaaDoorBuild
import Derived.Test.YtdopillligfdiaaDoorTail
import Derived.Laws.AppendOwnNone
namespace Go.Proofs.YtdopillligfdiaaDoor
set_option linter.unusedSimpArgs false
set_option linter.unusedVariables false
open Go.RowKit

/-- The slice v is the call's own (its block is B or later), and holds these rows. -/
structure Own (w : World) (B : Nat) (e : TypeId) (sz : Nat) (v : Value) (rows : List (List Value)) : Prop where
  own : w.ownsRow B e sz v rows.length rows.flatten
  each : ∀ r ∈ rows, r.length = sz
theorem Own.nil (w : World) (B : Nat) (e : TypeId) (sz : Nat) : Own w B e sz (.slice none 0 0) [] := ⟨World.ownsRow_nil w B e sz, by simp⟩
theorem grown_of_ext {w w' : World} (h : Ext w w') (row : Option Nat) : w.grownBy w' row :=
  ⟨h.os, h.tape, h.output, h.size, fun k hk _ => h.block k hk⟩
theorem Own.ext {w w' : World} {B : Nat} {e : TypeId} {sz : Nat} {v : Value} {rows : List (List Value)} (h : Own w B e sz v rows) (hx : Ext w w') : Own w' B e sz v rows :=
  ⟨h.own.kept (grown_of_ext hx none) (by cases v.ownBlock <;> simp), h.each⟩
theorem flat_row : ∀ {rows : List (List Value)} {sz : Nat}, (∀ r ∈ rows, r.length = sz) → ∀ (k : Nat) (r : List Value), rows[k]? = some r → ∀ j, j < sz → rows.flatten[k * sz + j]? = r[j]?
  | [], _, _, k, r, h, _, _ => by simp at h
  | x :: rows, sz, hall, 0, r, h, j, hj => by
    simp only [List.getElem?_cons_zero, Option.some.injEq] at h
    subst h
    have hx := hall x (by simp)
    simp only [Nat.zero_mul, Nat.zero_add, List.flatten_cons]
    rw [List.getElem?_append_left (by omega)]
  | x :: rows, sz, hall, k + 1, r, h, j, hj => by
    have hx := hall x (by simp)
    simp only [List.flatten_cons]
    rw [List.getElem?_append_right (by rw [hx, Nat.add_mul]; omega)]
    have e : (k + 1) * sz + j - x.length = k * sz + j := by rw [hx, Nat.add_mul]; omega
    rw [e]
    exact flat_row (fun r hr => hall r (by simp [hr])) k r (by simpa using h) j hj
theorem Own.slr {w : World} {B : Nat} {e : TypeId} {sz : Nat} {v : Value} {rows : List (List Value)} (h : Own w B e sz v rows) : SlR w sz v rows := by
  obtain ⟨h1, h2⟩ := h.own
  rcases h2 with ⟨rfl, hn⟩ | ⟨g, cap, cur, rfl, _, hg, hnc, hcm, hcs, htake⟩
  · have : rows = [] := List.eq_nil_of_length_eq_zero hn
    subst this
    exact ⟨none, 0, rfl, Nat.le_refl _, by omega, fun _ => rfl, fun k r hr => by simp at hr⟩
  · refine ⟨some ⟨g, 0, none⟩, cap, rfl, hnc, by unfold maxLen at hcm; omega, fun h => (by cases h), fun k r hr => ?_⟩
    have hlen := h.each r (List.mem_of_getElem? hr)
    refine ⟨hlen, g, 0, rfl, fun j u hu => ?_⟩
    have hj : j < sz := by rw [← hlen]; exact (List.getElem?_eq_some_iff.1 hu).1
    have hf := flat_row h.each k r hr j hj
    rw [hu, ← htake, List.getElem?_take] at hf
    split at hf
    · rw [Nat.zero_add, cell_of_row w g _ cur e (0, 0) hg]
      simpa using hf
    · cases hf
/-- A slice that was just written out is the call's own. -/
theorem Own.blk {w : World} {B g n : Nat} {e : TypeId} {sz : Nat} {cs : List Value} (h : Blk w g e cs.toArray) (hB : B ≤ g) (rows : List (List Value)) (hr : rows.flatten = cs) (hn : rows.length = n) (he : (rows.all fun r => r.length == sz) = true) (hm : n ≤ 9223372036854775807) : Own w B e sz (.slice (some ⟨g, 0, none⟩) n n) rows := by
  have hall : ∀ r ∈ rows, r.length = sz := fun r hr' => by simpa using List.all_eq_true.1 he r hr'
  have hfl : ∀ (l : List (List Value)), (∀ r ∈ l, r.length = sz) → l.flatten.length = l.length * sz := by
    intro l
    induction l with
    | nil => intro _; simp
    | cons r l ih => intro h; simp only [List.flatten_cons, List.length_append, List.length_cons, h r (by simp), ih (fun q hq => h q (by simp [hq])), Nat.add_mul]; omega
  have hl := hfl rows hall
  refine ⟨⟨hl, .inr ⟨g, n, cs.toArray, by rw [hn], hB, h, by omega, by unfold maxLen; omega, by rw [← hr, ← hn]; simpa using hl, ?_⟩⟩, hall⟩
  rw [← hr]
  simp only [List.take_of_length_le (Nat.le_of_eq hl)]
theorem Own.blk1 {w : World} {B g : Nat} {e : TypeId} {sz : Nat} {r : List Value} (h : Blk w g e r.toArray) (hB : B ≤ g) (he : (r.length == sz) = true) : Own w B e sz (.slice (some ⟨g, 0, none⟩) 1 1) [r] :=
  Own.blk h hB [r] (by simp) rfl (by simpa using he) (by omega)
class TElem (P : Program) (e : TypeId) (n : outParam Nat) (bytes : outParam Nat) (zc : outParam (List Value)) : Prop where
  h : ∃ i z, P.info? e = some i ∧ i.zero = some z ∧ i.size = n ∧ i.bytes = bytes ∧ z.cells.size = n ∧ 0 < n
theorem TElem.of {P : Program} {e n bytes : Nat} {zc : List Value} (h : ((P.info? e).map fun i => (i.zero.map (·.cells.toList), i.size, i.bytes)) = some (some zc, n, bytes)) (hz : zc.length = n) (hn : 0 < n) : TElem P e n bytes zc := ⟨by
  cases hi : P.info? e with
  | none => simp [hi] at h
  | some i =>
    cases hq : i.zero with
    | none => simp [hi, hq] at h
    | some z =>
      simp only [hi, hq, Option.map_some, Option.some.injEq, Prod.mk.injEq] at h
      obtain ⟨h1, h2, h3⟩ := h
      exact ⟨i, z, rfl, hq, h2, h3, by rw [← h2, h2, ← hz, ← h1]; simp, hn⟩⟩
section
variable {P : Program} {Q : Exit → Act → World → Prop} {K : Act → World → Prop} {a : Act} {w : World}
  {dst : Option Tmp} {ty : TypeId} {pos : String} {after : Array Edge} {guard : Option (Nat × Bool)} {ops : Array Oper} {rest : List Oper} {ss : List Spec} {fs : List (World → Prop)}
theorem r_append {s x : Operand} {t e n bytes B g p m c : Nat} {zc : List Value} [i : TSlice P t e] [z : TElem P e n bytes zc] {v : Value} {rows news : List (List Value)} (hs : a.eval s = v) (hown : Own w B e n v rows)
    (hx : a.eval x = .slice (some ⟨g, p, none⟩) m c) (hm : news.length = m) (hrow : RowAt w g p news.flatten) (hn : (news.all fun r => r.length == n && r.all (·.oneCell')) = true) (hB : B ≤ w.heap.size) (hlen : rows.length + m ≤ 1000000000) (hby : bytes ≤ 1000)
    (hk : ∀ v' w', Own w' B e n v' (rows ++ news) → Below B w w' → K (a.put dst v') w') : (Oper.mk dst (.call ⟨.builtin .append, #[s, x], #[t, t]⟩) ty pos after guard).wp P a w K Q := by
  obtain ⟨inf, z0, h1, h2, h3, h4, h5, h6⟩ := z.h
  have hall : ∀ r ∈ news, r.length = n ∧ ∀ u ∈ r, u.oneCell' = true := fun r hr => by
    have := List.all_eq_true.1 hn r hr
    simp only [Bool.and_eq_true, beq_iff_eq, List.all_eq_true] at this
    exact this
  have hfl : ∀ (l : List (List Value)), (∀ r ∈ l, r.length = n) → l.flatten.length = l.length * n := by
    intro l
    induction l with
    | nil => intro _; simp
    | cons r l ih => intro h; simp only [List.flatten_cons, List.length_append, List.length_cons, h r (by simp), ih (fun q hq => h q (by simp [hq])), Nat.add_mul]; omega
  have hmul : (rows.length + m) * bytes ≤ 1000000000 * 1000 := Nat.mul_le_mul hlen hby
  refine wp_append_own w s x t rfl B e inf z0 n bytes i.h h1 h2 h3 h4 h5 h6 v rows.length rows.flatten hs hown.own ⟨g, p, none⟩ m c news.flatten hx ?_ ?_ ?_ ?_ ?_ hB ?_
  · rw [hfl news (fun r hr => (hall r hr).1), hm]
  · intro j u hu
    have hadd : (⟨g, p, none⟩ : Addr).add j = ⟨g, p + j, none⟩ := by unfold Addr.add; split <;> simp_all
    rw [hadd]
    exact hrow j u hu
  · intro u hu
    obtain ⟨r, hr, hur⟩ := List.mem_flatten.1 hu
    exact (hall r hr).2 u hur
  · unfold maxLen; omega
  · omega
  · intro v' w' h7 h8 _
    refine hk v' w' ⟨?_, ?_⟩ ((Below.refl B w).grown h8 hB fun k hk' => (hown.own.lt k hk').1)
    · rw [List.length_append, hm, List.flatten_append]; exact h7
    · intro r hr
      rcases List.mem_append.1 hr with hr | hr
      · exact hown.each r hr
      · exact (hall r hr).1
theorem l_append {s x : Operand} {t e n bytes B g p m c : Nat} {zc : List Value} [i : TSlice P t e] [z : TElem P e n bytes zc] {v : Value} {rows news : List (List Value)} (hs : a.eval s = v) (hown : Own w B e n v rows)
    (hx : a.eval x = .slice (some ⟨g, p, none⟩) m c) (hm : news.length = m) (hrow : RowAt w g p news.flatten) (hn : (news.all fun r => r.length == n && r.all (·.oneCell')) = true) (hB : B ≤ w.heap.size) (hlen : rows.length + m ≤ 1000000000) (hby : bytes ≤ 1000)
    (hk : ∀ v' w', Own w' B e n v' (rows ++ news) → Below B w w' → wpList P ops Q rest (a.put dst v') w') : wpList P ops Q (Oper.mk dst (.call ⟨.builtin .append, #[s, x], #[t, t]⟩) ty pos after none :: rest) a w :=
  wpList_plain rfl fun _ hK => r_append hs hown hx hm hrow hn hB hlen hby fun v' w' h1 h2 => hK _ _ (hk v' w' h1 h2)
/-- One element. -/
theorem l_append1 {s x : Operand} {t e n bytes B g p c : Nat} {zc : List Value} [i : TSlice P t e] [z : TElem P e n bytes zc] {v : Value} {rows : List (List Value)} {r : List Value} (hs : a.eval s = v) (hown : Own w B e n v rows)
    (hx : a.eval x = .slice (some ⟨g, p, none⟩) 1 c) (hrow : RowAt w g p r) (hn : (r.length == n && r.all (·.oneCell')) = true) (hB : B ≤ w.heap.size) (hlen : rows.length + 1 ≤ 1000000000) (hby : bytes ≤ 1000)
    (hk : ∀ v' w', Own w' B e n v' (rows ++ [r]) → Below B w w' → wpList P ops Q rest (a.put dst v') w') : wpList P ops Q (Oper.mk dst (.call ⟨.builtin .append, #[s, x], #[t, t]⟩) ty pos after none :: rest) a w :=
  l_append (news := [r]) hs hown hx rfl (by simpa using hrow) (by simpa using hn) hB hlen hby hk
/-- Elements of one cell each. -/
theorem l_appendC {s x : Operand} {t e bytes B g p m c : Nat} {zc : List Value} [i : TSlice P t e] [z : TElem P e 1 bytes zc] {v : Value} {rows : List (List Value)} {vs : List Value} (hs : a.eval s = v) (hown : Own w B e 1 v rows)
    (hx : a.eval x = .slice (some ⟨g, p, none⟩) m c) (hrow : RowAt w g p vs) (hm : vs.length = m) (hn : (vs.all (·.oneCell')) = true) (hB : B ≤ w.heap.size) (hlen : rows.length + m ≤ 1000000000) (hby : bytes ≤ 1000)
    (hk : ∀ v' w', Own w' B e 1 v' (rows ++ vs.map fun u => [u]) → Below B w w' → wpList P ops Q rest (a.put dst v') w') : wpList P ops Q (Oper.mk dst (.call ⟨.builtin .append, #[s, x], #[t, t]⟩) ty pos after none :: rest) a w := by
  have hf : (vs.map fun u => [u]).flatten = vs := by
    clear hk hn hm hrow hx
    induction vs with
    | nil => rfl
    | cons u l ih => simp only [List.map_cons, List.flatten_cons, ih]; rfl
  refine l_append (news := vs.map fun u => [u]) hs hown hx (by simpa using hm) (by rw [hf]; exact hrow) ?_ hB hlen hby hk
  rw [List.all_map]
  simpa using hn
/-- All elements of another slice. -/
theorem l_appendS {s x : Operand} {t e n bytes B : Nat} {zc : List Value} [i : TSlice P t e] [z : TElem P e n bytes zc] {v u : Value} {rows news : List (List Value)} (hs : a.eval s = v) (hown : Own w B e n v rows)
    (hx : a.eval x = u) (hsrc : SlR w n u news) (hn : ∀ r ∈ news, ∀ y ∈ r, y.oneCell' = true) (hB : B ≤ w.heap.size) (hlen : rows.length + news.length ≤ 1000000000) (hby : bytes ≤ 1000)
    (hk : ∀ v' w', Own w' B e n v' (rows ++ news) → Below B w w' → wpList P ops Q rest (a.put dst v') w') : wpList P ops Q (Oper.mk dst (.call ⟨.builtin .append, #[s, x], #[t, t]⟩) ty pos after none :: rest) a w := by
  obtain ⟨A, c, rfl, hc, hm, h0, hr⟩ := hsrc
  cases A with
  | none =>
    have hc0 := h0 rfl
    subst hc0
    have hl : news = [] := List.eq_nil_of_length_eq_zero (by omega)
    subst hl
    obtain ⟨inf, z0, h1, h2, h3, h4, h5, h6⟩ := z.h
    refine wpList_append_own_none rfl s x t rfl B e inf n i.h h1 v rows.length rows.flatten hs hown.own hx ?_
    have := hk v w (by rw [List.append_nil]; exact hown) (Below.refl _ _)
    exact this
  | some ad =>
    have had : ∃ b o, ad = ⟨b, o, none⟩ ∨ news = [] := by
      cases news with
      | nil => exact ⟨0, 0, .inr rfl⟩
      | cons r l => obtain ⟨_, b, o, h, _⟩ := hr 0 r rfl; exact ⟨b, o, .inl (Option.some.inj h)⟩
    obtain ⟨b, o, had | had⟩ := had
    · subst had
      refine l_append (news := news) hs hown hx rfl ?_ ?_ hB hlen hby hk
      · intro j y hy
        have key : ∀ (l : List (List Value)) (q : Nat), (∀ k r, l[k]? = some r → r.length = n ∧ RowAt w b (q + k * n) r) → ∀ j y, l.flatten[j]? = some y → w.cell? ⟨b, q + j, none⟩ = some y := by
          intro l
          induction l with
          | nil => intro q _ j y h; simp at h
          | cons r l ih =>
            intro q h j y hy
            have hr0 := h 0 r rfl
            simp only [Nat.zero_mul, Nat.add_zero] at hr0
            simp only [List.flatten_cons] at hy
            by_cases hj : j < r.length
            · rw [List.getElem?_append_left hj] at hy
              exact hr0.2 j y hy
            · rw [List.getElem?_append_right (by omega)] at hy
              have := ih (q + n) (fun k r' hk' => by
                have := h (k + 1) r' (by simpa using hk')
                have e : q + (k + 1) * n = q + n + k * n := by rw [Nat.add_mul]; omega
                rw [e] at this
                exact this) _ y hy
              have e : q + n + (j - r.length) = q + j := by omega
              rwa [e] at this
        refine key news o (fun k r hk' => ?_) j y hy
        obtain ⟨g1, b', o', g2, g3⟩ := hr k r hk'
        simp only [Option.some.injEq, Addr.mk.injEq, and_true] at g2
        obtain ⟨rfl, rfl⟩ := g2
        exact ⟨g1, g3⟩
      · simp only [List.all_eq_true, Bool.and_eq_true, beq_iff_eq]
        intro r hr'
        obtain ⟨k, hk', hkr⟩ := List.mem_iff_getElem.1 hr'
        exact ⟨(hr k r (by rw [List.getElem?_eq_getElem hk', hkr])).1, fun y hy => hn r hr' y hy⟩
    · subst had
      obtain ⟨b, o, sp⟩ := ad
      obtain ⟨inf, z0, h1, h2, h3, h4, h5, h6⟩ := z.h
      refine wpList_append_own w rfl s x t rfl B e inf z0 n bytes i.h h1 h2 h3 h4 h5 h6 v rows.length rows.flatten hs hown.own ⟨b, o, sp⟩ 0 c [] hx (by simp) (by simp) (by simp) (by unfold maxLen; simp at hlen ⊢; omega) ?_ hB ?_
      · have : (rows.length + 0) * bytes ≤ 1000000000 * 1000 := Nat.mul_le_mul (by simpa using hlen) hby
        omega
      · intro v' w' h7 h8 _
        exact hk v' w' ⟨by simpa using h7, by simpa using hown.each⟩ ((Below.refl B w).grown h8 hB fun k hk' => (hown.own.lt k hk').1)
end
/-! Facts behind a step that leaves all below B. -/
theorem Below.row {w w' : World} {B b p : Nat} {cs : List Value} (h : Below B w w') (hr : RowAt w b p cs) (hb : b < B) : RowAt w' b p cs := fun j u hu => by
  rw [h.cell (p := ⟨b, p + j, none⟩) hb]; exact hr j u hu
theorem Below.ext {w w' : World} {B : Nat} (h : Below B w w') (hB : w.heap.size ≤ B) : Ext w w' := h.mono hB
theorem xb {a b c : World} (h : Ext a b) (k : Below a.heap.size b c) : Ext a c := Below.trans h k
theorem Ext.bel {w w' : World} {B : Nat} (h : Ext w w') (hB : B ≤ w.heap.size) : Below B w w' := Below.mono h hB
end Go.Proofs.YtdopillligfdiaaDoor
