/- From a contract to a row, in a seat without cards. -/
import Derived.Test.YtdopillligfdiaaMS
import Derived.Test.YtdopillligfdiaaRows
import Derived.ChangeSlices
import Derived.Test.YtdopillligfdiaaVal
import Derived.ProofKit
import Derived.OpenShut
import Derived.Carry
import Derived.Deep.Fields
import Derived.Deep.DeepHandedRow
import Derived.Lib.LaidTab
namespace Go.Proofs.Ytdopillligfdiaa
set_option linter.unusedSimpArgs false
set_option linter.unusedVariables false
open Go.ChangeShapes Go.WideShapes Go.ChangeAt Go.RowKit Go.Deep

abbrev irows (l : List Int) : List (List Value) := l.map fun n => [.int .i64 n]
theorem own : ownKnob Try.prog.godebug = none := by kernel_rfl
theorem laidOut : laidOutB Try.prog = true := by kernel_rfl

section
variable {H : Type} {enc : TypeId × Value → H} {P : Program}
theorem trodAll_stays (hl : laidOutB P = true) {W W' : World} {sp : Nat → Bool} : ∀ (ts : List TypeId) (vs : List Value) (ds : List (DataW H)) (ps : List MemPlace),
    (∀ t ∈ ts, P.readableRec t = true ∧ t < P.types.size) → DataW.TrodAll enc P W 0 (fun _ => true) true ts vs ds ps → (∀ x ∈ ps, W.sameAt W' x) → (∀ x ∈ ps, sp x.block = true) → DataW.TrodAll enc P W' 0 sp true ts vs ds ps
  | [], vs, ds, ps, _, h, _, _ => by
    obtain ⟨rfl, rfl, rfl⟩ := trodAll_nil h
    exact trodAll_mk0
  | t :: ts, vs, ds, ps, ht, h, hs, hp => by
    obtain ⟨v, vs', d, ds', p, q, rfl, rfl, rfl, h0, r0⟩ := trodAll_cons h
    have htt := ht t (by simp)
    exact trodAll_cons_mk (WideElems.Trod_stays hl htt.1 htt.2 h0 (fun x hx => hs x (by simp [hx])) (fun x hx => hp x (by simp [hx])))
      (trodAll_stays hl ts vs' ds' q (fun t ht' => ht t (by simp [ht'])) r0 (fun x hx => hs x (by simp [hx])) (fun x hx => hp x (by simp [hx])))
/-- The law returned true, and nothing that was there has turned. -/
theorem law_post (hl : laidOutB P = true) {f : Func} {s : ChangeSpec} {T : TypeId} (hv : s.vars = []) (hr : f.resultTypes = #[T]) (hT : P.underlying T = some .bool) (hp : ∀ t ∈ f.params.toList, P.readableRec t = true ∧ t < P.types.size)
    {W W' : World} {args : Array Value} {ds gs : List (DataW H)} {before : List MemPlace} (hW : DataW.Whole enc P f.params.toList s.vars false W args.toList ds gs before)
    (hs : s.fn H (ds ++ gs) = { results := [.lit (.bool true)], args := ds }) (hb : Below W.heap.size W W') : s.post enc P f false true false false W args (.bool true) W' := by
  have hlt : ∀ p ∈ before, p.block < W.heap.size := fun p hp => hW.lt p hp
  have hW' := hW
  obtain ⟨p, q, hA, hV, hbf, _, _⟩ := hW
  rw [hv] at hV
  obtain ⟨rfl, rfl⟩ := trodVars_none hV
  rw [List.append_nil] at hbf
  obtain rfl : before = p := hbf
  refine ⟨ds, [], before, [], before, [], hW', ?_, ?_, ?_, World.keptBut_mono (fun p hp => ⟨hp, .inr (.inl hp)⟩) (hb.frame (· ∈ before)), fun h => by cases h⟩
  · rw [hs, hr]
    exact trodAll_mk1 (shut_bool hT true)
  · rw [hs]
    exact trodAll_stays hl _ _ _ _ hp hA (fun x hx => hb.same (hlt x hx)) (fun x hx => by simpa using hlt x hx)
  · rw [hs, hv]
    rfl
end
section
variable {H : Type} {enc : TypeId × Value → H} {P : Program} {w : World} {base : Nat} {spare : Nat → Bool} {held : Bool}
/-- A struct of fields of one cell each: every field reads by itself. -/
theorem cells_fields {t : TypeId} {fs : Array Field} {fuel : Nat} {cs : List Value} {x : DataW H × List MemPlace} (hs : P.underlying t = some (.struct fs)) (hone : oneCellFields P fs = true) (hC : P.cellsOf t = fs.size)
    (h : DataW.trod enc P w base spare held fuel t cs = some x) : cs.length = fs.size ∧ ∃ n, ∀ (i : Nat) (f : Field) (c : Value), fs[i]? = some f → cs[i]? = some c → ∃ y, DataW.trod enc P w base spare held n f.type [c] = some y := by
  obtain ⟨xs, n, _, _, hl, hlen, hg⟩ := DataW.trod_struct hs h
  refine ⟨by rw [hl, hC], n, fun i f c hf hc => ?_⟩
  obtain ⟨ho, hk⟩ := hone_of hone i f hf
  have h1 := hg i f hf
  rw [ho, hk] at h1
  have hlt := (List.getElem?_eq_some_iff.1 hc).1
  have hone' : (cs.drop i).take 1 = [c] := by
    rw [List.drop_eq_getElem_cons hlt]
    have := (List.getElem?_eq_some_iff.1 hc).2
    rw [this]
    rfl
  rw [hone'] at h1
  have hix : i < xs.length := by rw [hlen]; exact (Array.getElem?_eq_some_iff.1 hf).1
  rw [List.getElem?_eq_getElem hix] at h1
  exact ⟨_, h1⟩
theorem open_fields {r : Reach} {b0 : Nat} {t : TypeId} {fs : Array Field} {v : Value} {d : DataW H} {p : List MemPlace} (hs : P.underlying t = some (.struct fs)) (hone : oneCellFields P fs = true) (hC : P.cellsOf t = fs.size)
    (hv : Value.okWide P w r b0 t v) (h : DataW.Trod enc P w base spare held t v d p) :
    ∃ l : List Value, v = .agg l.toArray ∧ l.length = fs.size ∧ ∃ n, ∀ (i : Nat) (f : Field) (c : Value), fs[i]? = some f → l[i]? = some c → ∃ y, DataW.trod enc P w base spare held n f.type [c] = some y := by
  obtain ⟨cs, rfl, hsz⟩ := okWide_struct hs hv
  obtain ⟨fuel, hf⟩ := h
  obtain ⟨l⟩ := cs
  obtain ⟨h1, h2⟩ := cells_fields hs hone hC hf
  exact ⟨l, rfl, by simpa [Value.cells] using h1, h2⟩
theorem fld_str {e : TypeId} {n : Nat} {c : Value} (he : P.underlying e = some .string) (h : ∃ y, DataW.trod enc P w base spare held n e [c] = some y) : ∃ s : Str, c = sv s ∧ s.Ok := by
  obtain ⟨y, h⟩ := h
  obtain ⟨s, h1, _, h3⟩ := DataW.trod_string he h
  refine ⟨s.data.toList, (List.cons.inj h1).1.trans ?_, ?_⟩
  · show Value.string s = Value.string ⟨s.data.toList.toArray⟩
    rw [Array.toArray_toList]
  have hz : s.size = s.data.toList.length := Array.length_toList.symm
  unfold maxLen at h3
  show s.data.toList.length ≤ 9223372036854775807
  omega
theorem fld_int {e : TypeId} {n : Nat} {c : Value} {k : IntKind} (he : P.underlying e = some (.int k)) (h : ∃ y, DataW.trod enc P w base spare held n e [c] = some y) : ∃ x : Int, c = .int k x ∧ (Lit.int k x).wf = true := by
  obtain ⟨y, h⟩ := h
  obtain ⟨x, h1, _, h3⟩ := DataW.trod_int he h
  exact ⟨x, (List.cons.inj h1).1, h3⟩
theorem fld_bool {e : TypeId} {n : Nat} {c : Value} (he : P.underlying e = some .bool) (h : ∃ y, DataW.trod enc P w base spare held n e [c] = some y) : ∃ x : Bool, c = .bool x := by
  obtain ⟨y, h⟩ := h
  obtain ⟨x, h1, _⟩ := DataW.trod_bool he h
  exact ⟨x, (List.cons.inj h1).1⟩
end

section
variable {H : Type} {enc : TypeId × Value → H} {w : World} {base : Nat} {held : Bool}
set_option maxRecDepth 100000 in
theorem open_ser {spare : Nat → Bool} {r : Reach} {b0 : Nat} {v : Value} {d : DataW H} {p : List MemPlace} (hv : Value.okWide Try.prog w r b0 23 v) (h : DataW.Trod enc Try.prog w base spare held 23 v d p) :
    ∃ a : Ser, v = a.v := by
  obtain ⟨l, rfl, hl, n, hf⟩ := open_fields Try.underlying23 (by kernel_rfl) (by kernel_rfl) hv h
  match l, hl with
  | [c0, c1], _ =>
    obtain ⟨n0, rfl, _⟩ := fld_int Try.underlying3 (hf 0 _ c0 rfl rfl)
    obtain ⟨n1, rfl, _⟩ := fld_int Try.underlying3 (hf 1 _ c1 rfl rfl)
    exact ⟨⟨n0, n1⟩, rfl⟩
theorem open_int {r : Reach} {b0 : Nat} {v : Value} (hv : Value.okWide Try.prog w r b0 3 v) : ∃ n, v = .int .i64 n :=
  okWide_int Try.underlying3 hv
/-- A slice of numbers, whatever stands behind it. -/
theorem open_intsl {r : Reach} {b0 : Nat} {v : Value} {d : DataW H} {p : List MemPlace} (hv : Value.okWide Try.prog w r b0 24 v) (h : DataW.Trod enc Try.prog w base (fun _ => true) held 24 v d p) :
    ∃ l : List Int, SlR w 1 v (irows l) := by
  obtain ⟨a0, len0, cap0, rfl⟩ := okWide_slice Try.underlying24 hv
  obtain ⟨fuel, hf⟩ := h
  have hf' : DataW.trod enc Try.prog w base (fun _ => true) held fuel 24 [.slice a0 len0 cap0] = some (d, p) := hf
  rcases open_ints Try.underlying24 Try.underlying3 (by kernel_rfl) hf' with ⟨h1, _⟩ | ⟨a, len, cap, zs, h1, _, hle, hm, hzs, _, hc, _⟩
  · obtain ⟨rfl, rfl, rfl⟩ : a0 = none ∧ len0 = 0 ∧ cap0 = 0 := by simpa using h1
    exact ⟨[], none, 0, rfl, Nat.le_refl _, by omega, fun _ => rfl, fun k r hr => by simp [irows] at hr⟩
  · obtain ⟨rfl, rfl, rfl⟩ : a0 = some a ∧ len0 = len ∧ cap0 = cap := by simpa using h1
    have hz : zs.length = cap0 := by simpa using hzs
    have hl : (irows (zs.take len0)).length = len0 := by simp [irows]; omega
    refine ⟨zs.take len0, some a, cap0, by rw [hl], by rw [hl]; exact hle, by unfold maxLen at hm; omega, (fun h => nomatch h), fun k r hr => ?_⟩
    have hk : k < len0 := by
      have := (List.getElem?_eq_some_iff.1 hr).1
      rw [hl] at this
      exact this
    have hkz : k < zs.length := by omega
    obtain rfl : r = [.int .i64 (zs.getD k 0)] := by
      rw [List.getElem?_map, List.getElem?_take, if_pos hk, List.getElem?_eq_getElem hkz] at hr
      simp only [Option.map_some, Option.some.injEq] at hr
      rw [← hr, List.getD_eq_getElem?_getD, List.getElem?_eq_getElem hkz]
      rfl
    obtain ⟨b, off, rfl, hc'⟩ := Go.ints_at hc (by omega)
    refine ⟨rfl, b, off, rfl, fun j u hu => ?_⟩
    match j, hu with
    | 0, hu =>
      obtain rfl := Option.some.inj hu
      have hck := hc' k hkz
      rw [Nat.mul_one, Nat.add_zero]
      exact hck
    | j + 1, hu => simp at hu
end

/-- A world for the witnesses. -/
noncomputable def laidWorld (os : Os) : World := World.holding Try.prog os ⟨#[], #[], []⟩
theorem whole_some {A B C : Type} {o : Option (List A × List B × C)} (h : o.map (fun x => x.2.1.isEmpty) = some true) : ∃ ds places, o = some (ds, [], places) := by
  match o, h with
  | some (ds, [], places), _ => exact ⟨ds, places, rfl⟩
theorem and_mk {a b : Bool} (h1 : a = true) (h2 : b = true) : (a && b) = true := by rw [h1, h2]; rfl
section
variable {P : Program} {f : FuncId} {fn : Func} {s : ChangeSpec} {c : OpenClaim}
theorem joined_mk (h1 : c.wf (OpenSpec.ofChange s) = true) (h2 : laidOutB P = true) (h3 : mapsRowed P = true) (h4 : fn.params.all (P.readableRec ·) = true) (h5 : namedTie P c.named s.vars = true) (h6 : (c.stops == []) = true) (h7 : (P.stops == []) = true) (h8 : (c.knobs == []) = true) (h9 : (P.stopKnobs == []) = true)
    (h10 : (c.inPlace == P.inPlace f) = true) (h11 : (c.unfollowed == P.unfollowed f) = true) (h12 : (c.recurses == P.recurses f) = true) (h13 : (c.named == P.varsNamed f) = true)
    (h14 : (c.maps == (fn.params.toList ++ s.plain.varTypes P).any (P.mapsRec ·)) = true) (h15 : (c.ifaces == (fn.params.toList ++ s.plain.varTypes P).any (P.ifacesRec ·)) = true) (h16 : (c.mapsOut == P.mapsAmong fn.resultTypes.toList) = true)
    (h17 : (c.loops == (fn.params.toList ++ s.plain.varTypes P).any (P.loopsFrom ·)) = true) (h18 : (c.wideKeys == (fn.params.toList ++ s.plain.varTypes P ++ fn.resultTypes.toList).any (P.wideKeysFrom ·)) = true)
    (h19 : s.vars.all (P.varReadable ·) = true) (h20 : fn.resultTypes.all (fun t => P.readableRec t && decide (t < P.types.size)) = true) (h21 : (c.ifacesOut == fn.resultTypes.toList.any (P.ifacesRec ·)) = true) (h22 : (c.loopsOut == fn.resultTypes.toList.any (P.loopsFrom ·)) = true) (h23 : (c.plainKeys == P.plainKeys) = true) (h24 : c.shortTexts.isNone = true) (h25 : P.stopsHeard = true) (h26 : P.mayEnter = true) (h27 : (c.lifted == P.liftsFinal) = true) (h28 : (P.make == some c.make) = true) (h29 : (c.kinds == (if c.domain.isEmpty then [] else fn.params.toList.map fun t => match P.underlying t with | some (.int k) => some k | _ => none)) = true) (h30 : (c.pinned == c.pinnedBy) = true)
    (h31 : (c.veiled == (fn.params.toList ++ s.plain.varTypes P ++ fn.resultTypes.toList).any (P.veiledRec ·)) = true) (h32 : c.veiledFits P fn.params.toList (fn.params.toList ++ s.plain.varTypes P ++ fn.resultTypes.toList) = true) : joinedFacts P f fn s c = true := by
  exact and_mk (and_mk (and_mk (and_mk (and_mk (and_mk (and_mk (and_mk (and_mk (and_mk (and_mk (and_mk (and_mk (and_mk (and_mk (and_mk (and_mk (and_mk (and_mk (and_mk (and_mk (and_mk (and_mk (and_mk (and_mk (and_mk (and_mk (and_mk (and_mk (and_mk (and_mk (h1) h2) h3) h4) h5) h6) h7) h8) h9) h10) h11) h12) h13) h14) h15) h16) h17) h18) h19) h20) h21) h22) h23) h24) h25) h26) h27) h28) h29) h30) h31) h32
end
theorem pf_maps : mapsRowed Try.pinned.checked.prog = true := by kernel_rfl
theorem pf_stops : (Try.pinned.checked.prog.stops == []) = true := by kernel_rfl
theorem pf_knobs : (Try.pinned.checked.prog.stopKnobs == []) = true := by kernel_rfl
theorem pf_heard : Try.pinned.checked.prog.stopsHeard = true := by kernel_rfl
theorem pf_enter : Try.pinned.checked.prog.mayEnter = true := by kernel_rfl
theorem pf_pk0 : Try.pinned.checked.prog.plainKeys = true := by kernel_rfl
theorem pf_pk {b : Bool} (h : b = true) : (b == Try.pinned.checked.prog.plainKeys) = true := by rw [pf_pk0, h]; rfl
theorem pf_lift0 : Try.pinned.checked.prog.liftsFinal = false := by kernel_rfl
theorem pf_lift {b : Bool} (h : b = false) : (b == Try.pinned.checked.prog.liftsFinal) = true := by rw [pf_lift0, h]; rfl
/-- Nothing is owned yet. -/
def S0 : Sig := ⟨fun _ => none, fun _ => 0⟩
theorem sem_true {P : Program} {f : Nat} {ds : List D} (h : Sem P f ds (.bool true)) {w : World} {vs : List Value} (hl : vs.length = ds.length) (hf : ∀ (i : Nat) (d : D) (v : Value), ds[i]? = some d → vs[i]? = some v → Fz S0.lim w v d) :
    Calls P f vs.toArray w fun e w' => e = .returned (.bool true) ∧ Ext w w' := by
  refine (h.2.2 S0 w vs (fun b x hx => by cases hx) hl fun i d v hd hv => .fz (hf i d v hd hv)).mono fun e w' ⟨v, S', he, _, ht, hr⟩ => ?_
  have hv := hr.bool_inv
  subst hv
  exact ⟨he, ht.os, ht.tape, ht.output, ht.size, fun b hb => (ht.free b hb rfl).1⟩
theorem okc0 {b o : Nat} : OkC S0.lim b o := fun s hs => by cases hs
theorem fz_ser {w : World} (s : Ser) : Fz S0.lim w s.v (.agg [.int .i64 s.first, .int .i64 s.last]) :=
  .agg [.int .i64 s.first, .int .i64 s.last] rfl (fun v hv => by simp at hv; rcases hv with rfl | rfl <;> rfl) fun j d v hd hv => by
    match j, hd, hv with
    | 0, hd, hv => cases hd; cases hv; exact .int _ _
    | 1, hd, hv => cases hd; cases hv; exact .int _ _
    | j + 2, hd, _ => simp at hd
theorem open_intsl' {H : Type} {enc : TypeId × Value → H} {w : World} {base b0 : Nat} {held : Bool} {r : Reach} {v : Value} {d : DataW H} {p : List MemPlace} (hv : Value.okWide Try.prog w r b0 24 v) (h : DataW.Trod enc Try.prog w base (fun _ => true) held 24 v d p) :
    ∃ l : List Int, Fz S0.lim w v (.sl 0 1 (l.map iR)) := by
  obtain ⟨l, A, c, rfl, h2, h3, h0, h4⟩ := open_intsl hv h
  refine ⟨l, ?_⟩
  have hln : (irows l).length = l.length := by simp
  rw [hln] at h2 ⊢
  cases A with
  | none =>
    have := h0 rfl
    subst this
    have : l = [] := List.eq_nil_of_length_eq_zero (by omega)
    subst this
    exact .slNil 0 1
  | some a =>
    have hsp : a.spot = none := by
      simp only [Value.okWide, Try.underlying24, Cell.okWide, Cell.ok] at hv
      exact hv.2.2.2.1
    obtain ⟨b, o, sp⟩ := a
    simp only at hsp
    subst hsp
    have hrow : ∀ k n, l[k]? = some n → w.cell? ⟨b, o + k, none⟩ = some (.int .i64 n) := fun k n hk => by
      obtain ⟨_, b', o', he, hr⟩ := h4 k [.int .i64 n] (by rw [List.getElem?_map, hk]; rfl)
      cases he
      have := hr 0 _ rfl
      simpa using this
    have hfz := Fz.sl (lim := S0.lim) (w := w) (b := b) (o := o) (cap := c) (sz := 1) (rows := l.map iR) (fun k _ => .int .i64 (l.getD k 0)) (by simpa using h2) (by unfold maxLen; omega) (fun k r hk => by
      rw [List.getElem?_map] at hk
      cases hl : l[k]? with
      | none => rw [hl] at hk; cases hk
      | some n => rw [hl] at hk; cases hk; rfl) (fun k r j d hk hd => by
      rw [List.getElem?_map] at hk
      cases hl : l[k]? with
      | none => rw [hl] at hk; cases hk
      | some n =>
        rw [hl] at hk
        cases hk
        have hj : j = 0 := by have := (List.getElem?_eq_some_iff.1 hd).1; simp [iR] at this; omega
        subst hj
        refine ⟨?_, okc0, rfl⟩
        have := hrow k n hl
        simpa [List.getD_eq_getElem?_getD, hl] using this) (fun k r j d hk hd => by
      rw [List.getElem?_map] at hk
      cases hl : l[k]? with
      | none => rw [hl] at hk; cases hk
      | some n =>
        rw [hl] at hk
        cases hk
        have hj : j = 0 := by have := (List.getElem?_eq_some_iff.1 hd).1; simp [iR] at this; omega
        subst hj
        cases hd
        simp only [List.getD_eq_getElem?_getD, hl, Option.getD_some]
        exact .int _ _)
    rw [List.length_map] at hfz
    exact hfz
end Go.Proofs.Ytdopillligfdiaa
