/- From what was read of an argument to data: slices, to whatever depth. From what was read of an argument to data: bytes, texts, receipts. -/
import Derived.Test.YtkjgmjocikmplaaDoorZ4
import Derived.Test.YtkjgmjocikmplaaDoorZ16
import Derived.Deep.Slices
import Derived.Test.YtkjgmjocikmplaaDoorZ15
namespace Go.Proofs.YtkjgmjocikmplaaDoor
set_option linter.unusedSimpArgs false
set_option linter.unusedVariables false
open Go.ChangeShapes Go.WideShapes Go.ChangeAt Go.RowKit Go.Deep

/-- Nothing is owned yet. -/
def S0 : Sig := ⟨fun _ => none, fun _ => 0⟩
/-- What the program's own variables hold when the call begins. -/
theorem sem_trueG {P : Program} {f : Nat} {ds : List D} (h : Sem P f ds (.bool true)) {w : World} {vs : List Value} (hG : ∀ (g : Nat) (φ : Obj → Prop), GB g = some φ → ∃ o, w.heap[g]? = some o ∧ φ o) (hl : vs.length = ds.length) (hf : ∀ (i : Nat) (d : D) (v : Value), ds[i]? = some d → vs[i]? = some v → Fz S0.lim w v d) :
    Calls P f vs.toArray w fun e w' => e = .returned (.bool true) ∧ Ext w w' := by
  refine (h.2.2 S0 w vs ⟨fun b x hx => (nomatch hx), fun g φ h => ⟨rfl, hG g φ h⟩⟩ hl fun i d v hd hv => .fz (hf i d v hd hv)).mono fun e w' ⟨v, S', he, _, ht, hr⟩ => ?_
  have hv := hr.bool_inv
  subst hv
  exact ⟨he, ht.os, ht.tape, ht.output, ht.size, fun b hb => (ht.free b hb rfl).1⟩
/-- A table that is listed is there. -/
theorem laid_tab {P : Program} {W : World} {laid : List (String × DataW Unit)} {name : String} {k : IntKind} {zs : List Int} {g : Nat} {t e : TypeId} {n : Nat} (hL : laidMet P laid W) (hf : laid.filter (fun x => x.1 == name) = [(name, Lib.tabData k zs)])
    (hg : P.globalNamed name = some g) (hty : (P.globals[g]?).map (·.type) = some t) (ht : P.underlying t = some (.array n e)) (he : P.underlying e = some (.int k)) (hce : P.cellsOf e = 1) (hct : P.cellsOf t = n) : ∃ o, W.heap[g]? = some o ∧ tabO k zs o := by
  have h1 := hL.filter fun x => x.1 == name
  rw [hf] at h1
  have h2 := Lib.tabIs_of_head hg hty ht he hce hct h1
  unfold Lib.TabIs World.var? at h2
  rw [hg] at h2
  simp only [Option.bind_some] at h2
  split at h2
  · rename_i cs e fz hh
    cases h2
    exact ⟨_, hh, e, fz, rfl⟩
  · cases h2
theorem okc0 {b o : Nat} : OkC S0.lim b o := fun s hs => by cases hs
section
variable {H : Type} {enc : TypeId × Value → H} {P : Program} {w : World} {base : Nat} {held : Bool}
/-- What stands in cells in a row. -/
structure Row (w : World) (cs : List Value) (ds : List D) : Prop where
  len : cs.length = ds.length
  get : ∀ (j : Nat) (d : D) (v : Value), ds[j]? = some d → cs[j]? = some v → v.oneCell' = true ∧ Fz S0.lim w v d
theorem Row.nil : Row w [] [] := ⟨rfl, fun j d v h => by simp at h⟩
theorem Row.cons {v : Value} {d : D} {cs : List Value} {ds : List D} (h1 : v.oneCell' = true) (h2 : Fz S0.lim w v d) (h : Row w cs ds) : Row w (v :: cs) (d :: ds) :=
  ⟨by simp [h.len], fun j e u hd hu => by
    cases j with
    | zero => cases hd; cases hu; exact ⟨h1, h2⟩
    | succ j => exact h.get j e u (by simpa using hd) (by simpa using hu)⟩
theorem Row.str {s : Str} {cs : List Value} {ds : List D} (h : Row w cs ds) : Row w (sv s :: cs) (.str s :: ds) := h.cons rfl (.str s)
theorem Row.int {k : IntKind} {n : Int} {cs : List Value} {ds : List D} (h : Row w cs ds) : Row w (.int k n :: cs) (.int k n :: ds) := h.cons rfl (.int k n)
theorem Row.bool {b : Bool} {cs : List Value} {ds : List D} (h : Row w cs ds) : Row w (.bool b :: cs) (.bool b :: ds) := h.cons rfl (.bool b)
theorem Row.agg {cs : List Value} {ds : List D} (h : Row w cs ds) : Fz S0.lim w (.agg cs.toArray) (.agg ds) :=
  .agg cs h.len (fun v hv => by
    obtain ⟨j, hj, rfl⟩ := List.mem_iff_getElem.1 hv
    exact (h.get j _ _ (List.getElem?_eq_getElem (by rw [← h.len]; exact hj)) (List.getElem?_eq_getElem hj)).1) fun j d v hd hv => (h.get j d v hd hv).2
/-- How many elements were read. -/
def lenD {H : Type} : DataW H → Nat
  | .slice elems _ => elems.length
  | _ => 0
/-- A slice whose elements read each as one of α. -/
theorem lift_sliceL {α : Type} {t e sz : Nat} {row : α → List D} {OkA : α → Prop} (ht : P.underlying t = some (.slice e)) (hc : P.cellsOf e = sz) (hsz : 0 < sz)
    (elem : ∀ (fuel : Nat) (cs : List Value) (x : DataW H × List MemPlace), DataW.trod enc P w base (fun _ => true) held fuel e cs = some x → ∃ a, OkA a ∧ (row a).length = sz ∧ Row w cs (row a))
    {fuel : Nat} {v : Value} {x : DataW H × List MemPlace} (h : DataW.trod enc P w base (fun _ => true) held fuel t [v] = some x) : ∃ l : List α, (∀ a ∈ l, OkA a) ∧ v.oneCell' = true ∧ Fz S0.lim w v (.sl 0 sz (l.map row)) ∧ l.length ≤ lenD x.1 := by
  subst hc
  rcases open_slice ht h with ⟨h1, _⟩ | ⟨a, len, cap, m, n, Dd, Pl, h1, _, hl, hm, hmm, hxx, hx⟩
  · obtain rfl : v = .slice none 0 0 := by simpa using h1
    exact ⟨[], (fun a ha => by cases ha), rfl, .slNil 0 _, Nat.zero_le _⟩
  · obtain rfl : v = .slice (some a) len cap := by simpa using h1
    simp only [if_true] at hmm
    subst hmm
    rcases Nat.eq_zero_or_pos m with h0 | h0
    · subst h0
      obtain rfl : len = 0 := by omega
      exact ⟨[], (fun a ha => by cases ha), rfl, .slE a _, Nat.zero_le _⟩
    · have each : ∀ i, i < m → ∃ cs' : List Value, ∃ y : α, (∀ j, j < P.cellsOf e → w.cell? ((a.add (i * P.cellsOf e)).add j) = cs'[j]?) ∧ cs'.length = P.cellsOf e ∧ OkA y ∧ (row y).length = P.cellsOf e ∧ Row w cs' (row y) := fun i hi => by
        obtain ⟨cs', k1, k2⟩ := hx i hi
        obtain ⟨_, k3, k4⟩ := World.cells?_some k1
        obtain ⟨y, k5, k6, k7⟩ := elem _ _ _ k2
        exact ⟨cs', y, k4, k3, k5, k6, k7⟩
      have hsp : ∃ b o, a = ⟨b, o, none⟩ := by
        obtain ⟨cs', y, k1, k2, _⟩ := each 0 h0
        obtain ⟨b, o, spot⟩ := a
        have h2 := k1 0 hsz
        rw [List.getElem?_eq_getElem (by omega)] at h2
        have hspot : spot = none := by simpa [Addr.add] using World.cell?_spot h2
        subst hspot
        exact ⟨b, o, rfl⟩
      obtain ⟨b, o, rfl⟩ := hsp
      let y : Nat → α := fun i => if h : i < m then Classical.choose (Classical.choose_spec (each i h)) else Classical.choose (Classical.choose_spec (each 0 h0))
      let cv : Nat → List Value := fun i => if h : i < m then Classical.choose (each i h) else []
      have hy : ∀ i, i < m → (∀ j, j < P.cellsOf e → w.cell? ⟨b, o + i * P.cellsOf e + j, none⟩ = (cv i)[j]?) ∧ (cv i).length = P.cellsOf e ∧ OkA (y i) ∧ (row (y i)).length = P.cellsOf e ∧ Row w (cv i) (row (y i)) := fun i hi => by
        have := Classical.choose_spec (Classical.choose_spec (each i hi))
        simp only [y, cv, dif_pos hi]
        refine ⟨fun j hj => ?_, this.2⟩
        rw [← this.1 j hj, Go.WideShapes.add_plain, Go.WideShapes.add_plain]
      refine ⟨(List.range len).map y, fun a ha => ?_, rfl, ?_, by rw [hxx]; simp [lenD]⟩
      · obtain ⟨i, hi, rfl⟩ := List.mem_map.1 ha
        exact (hy i (by have := List.mem_range.1 hi; omega)).2.2.1
      · have hlen : (((List.range len).map y).map row).length = len := by simp
        have hat : ∀ (k : Nat) (r : List D), (((List.range len).map y).map row)[k]? = some r → k < len ∧ r = row (y k) := fun k r hk => by
          have hkl : k < len := by have := (List.getElem?_eq_some_iff.1 hk).1; simpa using this
          rw [List.getElem?_map, List.getElem?_map, List.getElem?_range hkl] at hk
          exact ⟨hkl, (Option.some.inj hk).symm⟩
        have hfz := Fz.sl (lim := S0.lim) (w := w) (b := b) (o := o) (cap := m) (sz := P.cellsOf e) (rows := ((List.range len).map y).map row) (fun k j => (cv k).getD j undef) (by rw [hlen]; exact hl) hm (fun k r hk => by
          obtain ⟨hkl, rfl⟩ := hat k r hk
          exact (hy k (by omega)).2.2.2.1) (fun k r j d hk hd => by
          obtain ⟨hkl, rfl⟩ := hat k r hk
          obtain ⟨q1, q2, _, q4, q5⟩ := hy k (by omega)
          have hj : j < P.cellsOf e := by rw [← q4]; exact (List.getElem?_eq_some_iff.1 hd).1
          have hv : (cv k)[j]? = some ((cv k).getD j undef) := by rw [List.getD_eq_getElem?_getD, List.getElem?_eq_getElem (by omega)]; rfl
          exact ⟨by rw [q1 j hj]; exact hv, okc0, (q5.get j d _ hd hv).1⟩) (fun k r j d hk hd => by
          obtain ⟨hkl, rfl⟩ := hat k r hk
          obtain ⟨q1, q2, _, q4, q5⟩ := hy k (by omega)
          have hj : j < P.cellsOf e := by rw [← q4]; exact (List.getElem?_eq_some_iff.1 hd).1
          have hv : (cv k)[j]? = some ((cv k).getD j undef) := by rw [List.getD_eq_getElem?_getD, List.getElem?_eq_getElem (by omega)]; rfl
          exact (q5.get j d _ hd hv).2)
        rw [hlen] at hfz
        exact hfz
end
end Go.Proofs.YtkjgmjocikmplaaDoor
namespace Go.Proofs.YtkjgmjocikmplaaDoor
set_option linter.unusedSimpArgs false
set_option linter.unusedVariables false
open Go.ChangeShapes Go.WideShapes Go.ChangeAt Go.RowKit Go.Deep

section
variable {H : Type} {enc : TypeId × Value → H} {w : World} {base : Nat} {held : Bool}
set_option maxRecDepth 100000 in
theorem elem_byte {fuel : Nat} {cs : List Value} {x : DataW H × List MemPlace} (h : DataW.trod enc Tryd.prog w base (fun _ => true) held fuel 5 cs = some x) : ∃ b : UInt8, True ∧ (bR b).length = 1 ∧ Row w cs (bR b) := by
  obtain ⟨n, rfl, _, hwf⟩ := DataW.trod_int Tryd.underlying5 h
  have hb : 0 ≤ n ∧ n ≤ 255 := by
    simp only [Lit.wf, Bool.and_eq_true, decide_eq_true_eq] at hwf
    exact hwf
  refine ⟨UInt8.ofNat n.toNat, trivial, rfl, ?_⟩
  have e : ((UInt8.ofNat n.toNat).toNat : Int) = n := by
    rw [UInt8.toNat_ofNat']
    omega
  have := Row.int (k := .u8) (n := n) (Row.nil (w := w))
  unfold bR
  rw [e]
  exact this
set_option maxRecDepth 100000 in
theorem open_bytes {v : Value} {d : DataW H} {p : List MemPlace} {r : Reach} {b0 : Nat} (hv : Value.okWide Tryd.prog w r b0 22 v) (h : DataW.Trod enc Tryd.prog w base (fun _ => true) held 22 v d p) : ∃ l : List UInt8, l.length ≤ lenD d ∧ Fz S0.lim w v (.sl 0 1 (l.map bR)) := by
  obtain ⟨a0, len0, cap0, rfl⟩ := okWide_slice Tryd.underlying22 hv
  obtain ⟨fuel, hf⟩ := h
  obtain ⟨l, _, _, h3, h4⟩ := lift_sliceL (sz := 1) (row := bR) (OkA := fun _ => True) Tryd.underlying22 (by kernel_rfl) (by decide) (fun fuel cs x hx => elem_byte hx) hf
  exact ⟨l, h4, h3⟩
set_option maxRecDepth 100000 in
theorem open_proof {v : Value} {d : DataW H} {p : List MemPlace} {r : Reach} {b0 : Nat} (hv : Value.okWide Tryd.prog w r b0 24 v) (h : DataW.Trod enc Tryd.prog w base (fun _ => true) held 24 v d p) : ∃ q : Prf, q.Ok ∧ Fz S0.lim w v q.d := by
  obtain ⟨cs, rfl, hsz⟩ := okWide_struct Tryd.underlying24 hv
  obtain ⟨fuel, hf⟩ := h
  obtain ⟨hl, n, hf⟩ := cells_fields Tryd.underlying24 (by kernel_rfl) (by kernel_rfl) hf
  obtain ⟨l⟩ := cs
  match l, hl with
  | [c0, c1, c2], _ =>
    obtain ⟨n0, rfl, k0⟩ := fld_int Tryd.underlying3 (hf 0 _ c0 rfl rfl)
    obtain ⟨s1, rfl, k1⟩ := fld_str Tryd.underlying9 (hf 1 _ c1 rfl rfl)
    obtain ⟨n2, rfl, k2⟩ := fld_int Tryd.underlying3 (hf 2 _ c2 rfl rfl)
    have b0 : -9223372036854775808 ≤ n0 ∧ n0 ≤ 9223372036854775807 := by
      simp only [Lit.wf, Bool.and_eq_true, decide_eq_true_eq] at k0
      exact k0
    have b2 : -9223372036854775808 ≤ n2 ∧ n2 ≤ 9223372036854775807 := by
      simp only [Lit.wf, Bool.and_eq_true, decide_eq_true_eq] at k2
      exact k2
    exact ⟨⟨n0, s1, n2⟩, ⟨k1, b0, b2⟩, (Row.nil.int.str.int).agg⟩
end
/-- A slice is not longer than memory. -/
theorem fz_len {w : World} {v : Value} {l : List UInt8} (h : Fz S0.lim w v (.sl 0 1 (l.map bR))) : l.length ≤ 9223372036854775807 := by
  have key : ∀ {d : D}, Fz S0.lim w v d → d = .sl 0 1 (l.map bR) → (l.map bR).length ≤ maxLen := by
    intro d h e
    cases h with
    | slNil m sz => rw [← (D.sl.inj e).2.2]; exact Nat.zero_le _
    | slE A sz => rw [← (D.sl.inj e).2.2]; exact Nat.zero_le _
    | sl cv hc hm hr hh ih =>
      rw [← (D.sl.inj e).2.2]
      exact Nat.le_trans hc hm
    | _ => cases e
  have := key h rfl
  rw [List.length_map] at this
  exact this
end Go.Proofs.YtkjgmjocikmplaaDoor
