/- From what was read of an argument to data: agreements and cases. -/
import Derived.Test.YtdopillligfdiaaDoorLD
import Derived.Test.YtdopillligfdiaaDoorN4
namespace Go.Proofs.YtdopillligfdiaaDoor
set_option linter.unusedSimpArgs false
set_option linter.unusedVariables false
open Go.ChangeShapes Go.WideShapes Go.ChangeAt Go.RowKit Go.Deep

section
variable {H : Type} {enc : TypeId × Value → H} {w : World} {base : Nat} {held : Bool}
set_option maxRecDepth 100000 in
theorem elem_agr {fuel : Nat} {cs : List Value} {x : DataW H × List MemPlace} (h : DataW.trod enc Tryd.prog w base (fun _ => true) held fuel 23 cs = some x) : ∃ a : Agr, a.Ok ∧ a.row.length = 9 ∧ Row w cs a.row := by
  obtain ⟨hl, n, hf⟩ := cells_fields Tryd.underlying23 (by kernel_rfl) (by kernel_rfl) h
  match cs, hl with
  | [c0, c1, c2, c3, c4, c5, c6, c7, c8], _ =>
    obtain ⟨s0, rfl, _⟩ := fld_str Tryd.underlying9 (hf 0 _ c0 rfl rfl)
    obtain ⟨s1, rfl, _⟩ := fld_str Tryd.underlying9 (hf 1 _ c1 rfl rfl)
    obtain ⟨s2, rfl, k2⟩ := fld_str Tryd.underlying9 (hf 2 _ c2 rfl rfl)
    obtain ⟨s3, rfl, k3⟩ := fld_str Tryd.underlying9 (hf 3 _ c3 rfl rfl)
    obtain ⟨n4, rfl, _⟩ := fld_int Tryd.underlying3 (hf 4 _ c4 rfl rfl)
    obtain ⟨n5, rfl, _⟩ := fld_int Tryd.underlying3 (hf 5 _ c5 rfl rfl)
    obtain ⟨b6, rfl⟩ := fld_bool Tryd.underlying4 (hf 6 _ c6 rfl rfl)
    obtain ⟨n7, rfl, _⟩ := fld_int Tryd.underlying3 (hf 7 _ c7 rfl rfl)
    obtain ⟨b8, rfl⟩ := fld_bool Tryd.underlying4 (hf 8 _ c8 rfl rfl)
    exact ⟨⟨s0, s1, s2, s3, n4, n5, b6, n7, b8⟩, ⟨k2, k3⟩, rfl, Row.nil.bool.int.bool.int.int.str.str.str.str⟩
set_option maxRecDepth 100000 in
theorem open_agrs {v : Value} {d : DataW H} {p : List MemPlace} {r : Reach} {b0 : Nat} (hv : Value.okWide Tryd.prog w r b0 59 v) (h : DataW.Trod enc Tryd.prog w base (fun _ => true) held 59 v d p) : ∃ l : List Agr, (∀ p ∈ l, p.Ok) ∧ Fz S0.lim w v (.sl 0 9 (l.map Agr.row)) := by
  obtain ⟨a0, len0, cap0, rfl⟩ := okWide_slice Tryd.underlying59 hv
  obtain ⟨fuel, hf⟩ := h
  obtain ⟨l, h1, _, h3⟩ := lift_slice (sz := 9) (row := Agr.row) (OkA := Agr.Ok) Tryd.underlying59 (by kernel_rfl) (by decide) (fun fuel cs x hx => elem_agr hx) hf
  exact ⟨l, h1, h3⟩
set_option maxRecDepth 100000 in
theorem open_case {v : Value} {d : DataW H} {p : List MemPlace} {r : Reach} {b0 : Nat} (hv : Value.okWide Tryd.prog w r b0 37 v) (h : DataW.Trod enc Tryd.prog w base (fun _ => true) held 37 v d p) : ∃ c : Cas, c.Ok ∧ Fz S0.lim w v c.d := by
  obtain ⟨cs, rfl, hsz⟩ := okWide_struct Tryd.underlying37 hv
  obtain ⟨fuel, hf⟩ := h
  obtain ⟨hl, n, hf⟩ := cells_fields Tryd.underlying37 (by kernel_rfl) (by kernel_rfl) hf
  obtain ⟨l⟩ := cs
  match l, hl with
  | [c0, c1, c2, c3, c4, c5], _ =>
    obtain ⟨s0, rfl, k0⟩ := fld_str Tryd.underlying9 (hf 0 _ c0 rfl rfl)
    obtain ⟨s1, rfl, k1⟩ := fld_str Tryd.underlying9 (hf 1 _ c1 rfl rfl)
    obtain ⟨s2, rfl, k2⟩ := fld_str Tryd.underlying9 (hf 2 _ c2 rfl rfl)
    obtain ⟨s3, rfl, k3⟩ := fld_str Tryd.underlying9 (hf 3 _ c3 rfl rfl)
    obtain ⟨n4, rfl, _⟩ := fld_int Tryd.underlying3 (hf 4 _ c4 rfl rfl)
    obtain ⟨b5, rfl⟩ := fld_bool Tryd.underlying4 (hf 5 _ c5 rfl rfl)
    exact ⟨⟨s0, s1, s2, s3, n4, b5⟩, ⟨k0, k1, k2, k3⟩, (Row.nil.bool.int.str.str.str.str).agg⟩
end
end Go.Proofs.YtdopillligfdiaaDoor
