/- From what was read of an argument to data: slices of structs, to whatever depth. From what was read of an argument to data: agreements and cases. -/
import Derived.Test.YthbhjladfniboaaGreatDoorZ8
import Derived.Test.YthbhjladfniboaaGreatDoorZ16
import Derived.Deep.Slices
import Derived.Test.YthbhjladfniboaaGreatDoorZ10
namespace Go.Proofs.YthbhjladfniboaaGreatDoor
set_option linter.unusedSimpArgs false
set_option linter.unusedVariables false
open Go.ChangeShapes Go.WideShapes Go.ChangeAt Go.RowKit Go.Deep

/-- Nothing is owned yet. -/
def S0 : Sig := ⟨fun _ => none, fun _ => 0⟩
theorem sem_true {P : Program} {f : Nat} {ds : List D} (h : Sem P f ds (.bool true)) {w : World} {vs : List Value} (hl : vs.length = ds.length) (hf : ∀ (i : Nat) (d : D) (v : Value), ds[i]? = some d → vs[i]? = some v → Fz S0.lim w v d) :
    Calls P f vs.toArray w fun e w' => e = .returned (.bool true) ∧ Ext w w' := by
  refine (h.2.2 S0 w vs (fun b x hx => by cases hx) hl fun i d v hd hv => .fz (hf i d v hd hv)).mono fun e w' ⟨v, S', he, _, ht, hr⟩ => ?_
  have hv := hr.bool_inv
  subst hv
  exact ⟨he, ht.os, ht.tape, ht.output, ht.size, fun b hb => (ht.free b hb rfl).1⟩
theorem okc0 {b o : Nat} : OkC S0.lim b o := fun s hs => by cases hs
section
variable {H : Type} {enc : TypeId × Value → H} {P : Program} {w : World} {base : Nat} {held : Bool}
/-- What stands in cells in a row. -/
structure Row (w : World) (cs : List Value) (ds : List D) : Prop where
  len : cs.length = ds.length
  get : ∀ (j : Nat) (d : D) (v : Value), ds[j]? = some d → cs[j]? = some v → v.oneCell' = true ∧ Fz S0.lim w v d
theorem Row.nil : Row w [] [] := ⟨rfl, fun j d v h => by simp at h⟩
theorem Row.cons {v : Value} {d : D} {cs : List Value} {ds : List D} (h1 : v.oneCell' = true) (h2 : Fz S0.lim w v d) (h : Row w cs ds) : Row w (v :: cs) (d :: ds) :=
  ⟨by simp [h.len], fun j e u hd hu => by
    cases j with
    | zero => cases hd; cases hu; exact ⟨h1, h2⟩
    | succ j => exact h.get j e u (by simpa using hd) (by simpa using hu)⟩
theorem Row.str {s : Str} {cs : List Value} {ds : List D} (h : Row w cs ds) : Row w (sv s :: cs) (.str s :: ds) := h.cons rfl (.str s)
theorem Row.int {k : IntKind} {n : Int} {cs : List Value} {ds : List D} (h : Row w cs ds) : Row w (.int k n :: cs) (.int k n :: ds) := h.cons rfl (.int k n)
theorem Row.bool {b : Bool} {cs : List Value} {ds : List D} (h : Row w cs ds) : Row w (.bool b :: cs) (.bool b :: ds) := h.cons rfl (.bool b)
theorem Row.agg {cs : List Value} {ds : List D} (h : Row w cs ds) : Fz S0.lim w (.agg cs.toArray) (.agg ds) :=
  .agg cs h.len (fun v hv => by
    obtain ⟨j, hj, rfl⟩ := List.mem_iff_getElem.1 hv
    exact (h.get j _ _ (List.getElem?_eq_getElem (by rw [← h.len]; exact hj)) (List.getElem?_eq_getElem hj)).1) fun j d v hd hv => (h.get j d v hd hv).2
/-- A slice whose elements read each as one of α. -/
theorem lift_slice {α : Type} {t e sz : Nat} {row : α → List D} {OkA : α → Prop} (ht : P.underlying t = some (.slice e)) (hc : P.cellsOf e = sz) (hsz : 0 < sz)
    (elem : ∀ (fuel : Nat) (cs : List Value) (x : DataW H × List MemPlace), DataW.trod enc P w base (fun _ => true) held fuel e cs = some x → ∃ a, OkA a ∧ (row a).length = sz ∧ Row w cs (row a))
    {fuel : Nat} {v : Value} {x : DataW H × List MemPlace} (h : DataW.trod enc P w base (fun _ => true) held fuel t [v] = some x) : ∃ l : List α, (∀ a ∈ l, OkA a) ∧ v.oneCell' = true ∧ Fz S0.lim w v (.sl 0 sz (l.map row)) := by
  subst hc
  rcases open_slice ht h with ⟨h1, _⟩ | ⟨a, len, cap, m, n, Dd, Pl, h1, _, hl, hm, hmm, _, hx⟩
  · obtain rfl : v = .slice none 0 0 := by simpa using h1
    exact ⟨[], (fun a ha => by cases ha), rfl, .slNil 0 _⟩
  · obtain rfl : v = .slice (some a) len cap := by simpa using h1
    simp only [if_true] at hmm
    subst hmm
    rcases Nat.eq_zero_or_pos m with h0 | h0
    · subst h0
      obtain rfl : len = 0 := by omega
      exact ⟨[], (fun a ha => by cases ha), rfl, .slE a _⟩
    · have each : ∀ i, i < m → ∃ cs' : List Value, ∃ y : α, (∀ j, j < P.cellsOf e → w.cell? ((a.add (i * P.cellsOf e)).add j) = cs'[j]?) ∧ cs'.length = P.cellsOf e ∧ OkA y ∧ (row y).length = P.cellsOf e ∧ Row w cs' (row y) := fun i hi => by
        obtain ⟨cs', k1, k2⟩ := hx i hi
        obtain ⟨_, k3, k4⟩ := World.cells?_some k1
        obtain ⟨y, k5, k6, k7⟩ := elem _ _ _ k2
        exact ⟨cs', y, k4, k3, k5, k6, k7⟩
      have hsp : ∃ b o, a = ⟨b, o, none⟩ := by
        obtain ⟨cs', y, k1, k2, _⟩ := each 0 h0
        obtain ⟨b, o, spot⟩ := a
        have h2 := k1 0 hsz
        rw [List.getElem?_eq_getElem (by omega)] at h2
        have hspot : spot = none := by simpa [Addr.add] using World.cell?_spot h2
        subst hspot
        exact ⟨b, o, rfl⟩
      obtain ⟨b, o, rfl⟩ := hsp
      let y : Nat → α := fun i => if h : i < m then Classical.choose (Classical.choose_spec (each i h)) else Classical.choose (Classical.choose_spec (each 0 h0))
      let cv : Nat → List Value := fun i => if h : i < m then Classical.choose (each i h) else []
      have hy : ∀ i, i < m → (∀ j, j < P.cellsOf e → w.cell? ⟨b, o + i * P.cellsOf e + j, none⟩ = (cv i)[j]?) ∧ (cv i).length = P.cellsOf e ∧ OkA (y i) ∧ (row (y i)).length = P.cellsOf e ∧ Row w (cv i) (row (y i)) := fun i hi => by
        have := Classical.choose_spec (Classical.choose_spec (each i hi))
        simp only [y, cv, dif_pos hi]
        refine ⟨fun j hj => ?_, this.2⟩
        rw [← this.1 j hj, Go.WideShapes.add_plain, Go.WideShapes.add_plain]
      refine ⟨(List.range len).map y, fun a ha => ?_, rfl, ?_⟩
      · obtain ⟨i, hi, rfl⟩ := List.mem_map.1 ha
        exact (hy i (by have := List.mem_range.1 hi; omega)).2.2.1
      · have hlen : (((List.range len).map y).map row).length = len := by simp
        have hat : ∀ (k : Nat) (r : List D), (((List.range len).map y).map row)[k]? = some r → k < len ∧ r = row (y k) := fun k r hk => by
          have hkl : k < len := by have := (List.getElem?_eq_some_iff.1 hk).1; simpa using this
          rw [List.getElem?_map, List.getElem?_map, List.getElem?_range hkl] at hk
          exact ⟨hkl, (Option.some.inj hk).symm⟩
        have hfz := Fz.sl (lim := S0.lim) (w := w) (b := b) (o := o) (cap := m) (sz := P.cellsOf e) (rows := ((List.range len).map y).map row) (fun k j => (cv k).getD j undef) (by rw [hlen]; exact hl) hm (fun k r hk => by
          obtain ⟨hkl, rfl⟩ := hat k r hk
          exact (hy k (by omega)).2.2.2.1) (fun k r j d hk hd => by
          obtain ⟨hkl, rfl⟩ := hat k r hk
          obtain ⟨q1, q2, _, q4, q5⟩ := hy k (by omega)
          have hj : j < P.cellsOf e := by rw [← q4]; exact (List.getElem?_eq_some_iff.1 hd).1
          have hv : (cv k)[j]? = some ((cv k).getD j undef) := by rw [List.getD_eq_getElem?_getD, List.getElem?_eq_getElem (by omega)]; rfl
          exact ⟨by rw [q1 j hj]; exact hv, okc0, (q5.get j d _ hd hv).1⟩) (fun k r j d hk hd => by
          obtain ⟨hkl, rfl⟩ := hat k r hk
          obtain ⟨q1, q2, _, q4, q5⟩ := hy k (by omega)
          have hj : j < P.cellsOf e := by rw [← q4]; exact (List.getElem?_eq_some_iff.1 hd).1
          have hv : (cv k)[j]? = some ((cv k).getD j undef) := by rw [List.getD_eq_getElem?_getD, List.getElem?_eq_getElem (by omega)]; rfl
          exact (q5.get j d _ hd hv).2)
        rw [hlen] at hfz
        exact hfz
end
section
variable {H : Type} {enc : TypeId × Value → H} {w : World} {base : Nat} {held : Bool}
set_option maxRecDepth 100000 in
theorem elem_adr {fuel : Nat} {cs : List Value} {x : DataW H × List MemPlace} (h : DataW.trod enc Tryz.prog w base (fun _ => true) held fuel 120 cs = some x) : ∃ a : Adr, a.Ok ∧ a.row.length = 2 ∧ cs = [sv a.kind, sv a.id] ∧ Row w cs a.row := by
  obtain ⟨hl, n, hf⟩ := cells_fields Tryz.underlying120 (by kernel_rfl) (by kernel_rfl) h
  match cs, hl with
  | [c0, c1], _ =>
    obtain ⟨s0, rfl, k0⟩ := fld_str Tryz.underlying9 (hf 0 _ c0 rfl rfl)
    obtain ⟨s1, rfl, k1⟩ := fld_str Tryz.underlying9 (hf 1 _ c1 rfl rfl)
    exact ⟨⟨s0, s1⟩, ⟨k0, k1⟩, rfl, rfl, Row.nil.str.str⟩
set_option maxRecDepth 100000 in
theorem elem_par {fuel : Nat} {cs : List Value} {x : DataW H × List MemPlace} (h : DataW.trod enc Tryz.prog w base (fun _ => true) held fuel 111 cs = some x) : ∃ p : Par, p.Ok ∧ p.row.length = 2 ∧ Row w cs p.row := by
  obtain ⟨hl, n, hf⟩ := cells_fields Tryz.underlying111 (by kernel_rfl) (by kernel_rfl) h
  match cs, hl with
  | [c0, c1], _ =>
    obtain ⟨s0, rfl, k0⟩ := fld_str Tryz.underlying9 (hf 0 _ c0 rfl rfl)
    obtain ⟨y, hy⟩ := hf 1 _ c1 rfl rfl
    obtain ⟨l, h1, h2, h3⟩ := lift_slice (sz := 2) (row := Adr.row) (OkA := Adr.Ok) Tryz.underlying109 (by kernel_rfl) (by decide) (fun fuel cs x hx => by
      obtain ⟨a, q1, q2, _, q3⟩ := elem_adr hx
      exact ⟨a, q1, q2, q3⟩) hy
    exact ⟨⟨s0, l⟩, ⟨k0, h1⟩, rfl, (Row.nil.cons h2 h3).str⟩
set_option maxRecDepth 100000 in
/-- An argument that is a slice of partners. -/
theorem open_pars {v : Value} {d : DataW H} {p : List MemPlace} {r : Reach} {b0 : Nat} (hv : Value.okWide Tryz.prog w r b0 22 v) (h : DataW.Trod enc Tryz.prog w base (fun _ => true) held 22 v d p) : ∃ l : List Par, (∀ p ∈ l, p.Ok) ∧ Fz S0.lim w v (.sl 0 2 (l.map Par.row)) := by
  obtain ⟨a0, len0, cap0, rfl⟩ := okWide_slice Tryz.underlying22 hv
  obtain ⟨fuel, hf⟩ := h
  obtain ⟨l, h1, _, h3⟩ := lift_slice (sz := 2) (row := Par.row) (OkA := Par.Ok) Tryz.underlying22 (by kernel_rfl) (by decide) (fun fuel cs x hx => elem_par hx) hf
  exact ⟨l, h1, h3⟩
end
end Go.Proofs.YthbhjladfniboaaGreatDoor
namespace Go.Proofs.YthbhjladfniboaaGreatDoor
set_option linter.unusedSimpArgs false
set_option linter.unusedVariables false
open Go.ChangeShapes Go.WideShapes Go.ChangeAt Go.RowKit Go.Deep

section
variable {H : Type} {enc : TypeId × Value → H} {w : World} {base : Nat} {held : Bool}
set_option maxRecDepth 100000 in
theorem elem_agr {fuel : Nat} {cs : List Value} {x : DataW H × List MemPlace} (h : DataW.trod enc Tryz.prog w base (fun _ => true) held fuel 52 cs = some x) : ∃ a : Agr, a.Ok ∧ a.row.length = 9 ∧ Row w cs a.row := by
  obtain ⟨hl, n, hf⟩ := cells_fields Tryz.underlying52 (by kernel_rfl) (by kernel_rfl) h
  match cs, hl with
  | [c0, c1, c2, c3, c4, c5, c6, c7, c8], _ =>
    obtain ⟨s0, rfl, _⟩ := fld_str Tryz.underlying9 (hf 0 _ c0 rfl rfl)
    obtain ⟨s1, rfl, _⟩ := fld_str Tryz.underlying9 (hf 1 _ c1 rfl rfl)
    obtain ⟨s2, rfl, k2⟩ := fld_str Tryz.underlying9 (hf 2 _ c2 rfl rfl)
    obtain ⟨s3, rfl, k3⟩ := fld_str Tryz.underlying9 (hf 3 _ c3 rfl rfl)
    obtain ⟨n4, rfl, _⟩ := fld_int Tryz.underlying3 (hf 4 _ c4 rfl rfl)
    obtain ⟨n5, rfl, _⟩ := fld_int Tryz.underlying3 (hf 5 _ c5 rfl rfl)
    obtain ⟨b6, rfl⟩ := fld_bool Tryz.underlying4 (hf 6 _ c6 rfl rfl)
    obtain ⟨n7, rfl, _⟩ := fld_int Tryz.underlying3 (hf 7 _ c7 rfl rfl)
    obtain ⟨b8, rfl⟩ := fld_bool Tryz.underlying4 (hf 8 _ c8 rfl rfl)
    exact ⟨⟨s0, s1, s2, s3, n4, n5, b6, n7, b8⟩, ⟨k2, k3⟩, rfl, Row.nil.bool.int.bool.int.int.str.str.str.str⟩
set_option maxRecDepth 100000 in
theorem open_agrs {v : Value} {d : DataW H} {p : List MemPlace} {r : Reach} {b0 : Nat} (hv : Value.okWide Tryz.prog w r b0 23 v) (h : DataW.Trod enc Tryz.prog w base (fun _ => true) held 23 v d p) : ∃ l : List Agr, (∀ p ∈ l, p.Ok) ∧ Fz S0.lim w v (.sl 0 9 (l.map Agr.row)) := by
  obtain ⟨a0, len0, cap0, rfl⟩ := okWide_slice Tryz.underlying23 hv
  obtain ⟨fuel, hf⟩ := h
  obtain ⟨l, h1, _, h3⟩ := lift_slice (sz := 9) (row := Agr.row) (OkA := Agr.Ok) Tryz.underlying23 (by kernel_rfl) (by decide) (fun fuel cs x hx => elem_agr hx) hf
  exact ⟨l, h1, h3⟩
set_option maxRecDepth 100000 in
theorem open_case {v : Value} {d : DataW H} {p : List MemPlace} {r : Reach} {b0 : Nat} (hv : Value.okWide Tryz.prog w r b0 25 v) (h : DataW.Trod enc Tryz.prog w base (fun _ => true) held 25 v d p) : ∃ c : Cas, c.Ok ∧ Fz S0.lim w v c.d := by
  obtain ⟨cs, rfl, hsz⟩ := okWide_struct Tryz.underlying25 hv
  obtain ⟨fuel, hf⟩ := h
  obtain ⟨hl, n, hf⟩ := cells_fields Tryz.underlying25 (by kernel_rfl) (by kernel_rfl) hf
  obtain ⟨l⟩ := cs
  match l, hl with
  | [c0, c1, c2, c3, c4, c5], _ =>
    obtain ⟨s0, rfl, k0⟩ := fld_str Tryz.underlying9 (hf 0 _ c0 rfl rfl)
    obtain ⟨s1, rfl, k1⟩ := fld_str Tryz.underlying9 (hf 1 _ c1 rfl rfl)
    obtain ⟨s2, rfl, k2⟩ := fld_str Tryz.underlying9 (hf 2 _ c2 rfl rfl)
    obtain ⟨s3, rfl, k3⟩ := fld_str Tryz.underlying9 (hf 3 _ c3 rfl rfl)
    obtain ⟨n4, rfl, _⟩ := fld_int Tryz.underlying3 (hf 4 _ c4 rfl rfl)
    obtain ⟨b5, rfl⟩ := fld_bool Tryz.underlying4 (hf 5 _ c5 rfl rfl)
    exact ⟨⟨s0, s1, s2, s3, n4, b5⟩, ⟨k0, k1, k2, k3⟩, (Row.nil.bool.int.str.str.str.str).agg⟩
end
end Go.Proofs.YthbhjladfniboaaGreatDoor
