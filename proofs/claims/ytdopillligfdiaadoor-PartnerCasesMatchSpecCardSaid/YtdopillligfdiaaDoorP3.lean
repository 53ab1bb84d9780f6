/- PartnerCasesMatchSpec: for every two agreements and every case the law returns true and turns nothing that was there. -/
import Derived.Test.YtdopillligfdiaaDoorC3
import Derived.Test.YtdopillligfdiaaDoorLift
namespace Go.Proofs.YtdopillligfdiaaDoor.cases
set_option linter.unusedSimpArgs false
set_option linter.unusedVariables false
open Go.ChangeShapes Go.WideShapes Go.ChangeAt Go.RowKit Go.Deep

section
variable {H : Type} {enc : TypeId × Value → H} {w : World} {base : Nat} {spare : Nat → Bool} {held : Bool}
set_option maxRecDepth 100000 in
theorem open_cas {r : Reach} {b0 : Nat} {v : Value} {d : DataW H} {p : List MemPlace} (hv : Value.okWide Tryd.prog w r b0 37 v) (h : DataW.Trod enc Tryd.prog w base spare held 37 v d p) :
    ∃ a : Cas, v = a.v ∧ a.Ok := by
  obtain ⟨l, rfl, hl, n, hf⟩ := open_fields Tryd.underlying37 (by kernel_rfl) (by kernel_rfl) hv h
  match l, hl with
  | [c0, c1, c2, c3, c4, c5], _ =>
    obtain ⟨s0, rfl, k0⟩ := fld_str Tryd.underlying9 (hf 0 _ c0 rfl rfl)
    obtain ⟨s1, rfl, k1⟩ := fld_str Tryd.underlying9 (hf 1 _ c1 rfl rfl)
    obtain ⟨s2, rfl, k2⟩ := fld_str Tryd.underlying9 (hf 2 _ c2 rfl rfl)
    obtain ⟨s3, rfl, k3⟩ := fld_str Tryd.underlying9 (hf 3 _ c3 rfl rfl)
    obtain ⟨n4, rfl, _⟩ := fld_int Tryd.underlying3 (hf 4 _ c4 rfl rfl)
    obtain ⟨b5, rfl⟩ := fld_bool Tryd.underlying4 (hf 5 _ c5 rfl rfl)
    exact ⟨⟨s0, s1, s2, s3, n4, b5⟩, rfl, ⟨k0, k1, k2, k3⟩⟩
end

theorem lawpost {H : Type} {enc : TypeId × Value → H} {W W' : World} {args : Array Value} {ds gs : List (DataW H)} {before : List MemPlace} (hW : DataW.Whole enc Tryd.prog Tryd.f5.params.toList Rows.partnerCasesMatchSpecSpec.vars false W args.toList ds gs before) (hs : Rows.partnerCasesMatchSpecSpec.fn H (ds ++ gs) = { results := [.lit (.bool true)], args := ds }) (hg : Ext W W') :
    Rows.partnerCasesMatchSpecSpec.post enc Tryd.prog Tryd.f5 false true false false W args (.bool true) W' :=
  law_post laidOut rfl (by kernel_rfl) Tryd.underlying4 (by
    rw [Tryd.params5]
    intro t ht
    have ht' : t = 23 ∨ t = 37 := by simpa using ht
    rcases ht' with rfl | rfl
    · exact ⟨by kernel_rfl, of_decide_eq_true (by kernel_rfl)⟩
    · exact ⟨by kernel_rfl, of_decide_eq_true (by kernel_rfl)⟩) hW hs hg.below

set_option maxRecDepth 100000 in
theorem contract (H : Type) (enc : TypeId × Value → H) (W : World) (base : Nat) (args : Array Value) (ds gs : List (DataW H)) (before : List MemPlace)
    (hval : ∀ (j : Nat) t v, Tryd.f5.params[j]? = some t → args[j]? = some v → Value.okWide Tryd.prog W .any base t v)
    (hW : DataW.Whole enc Tryd.prog Tryd.f5.params.toList Rows.partnerCasesMatchSpecSpec.vars false W args.toList ds gs before) :
    Calls Tryd.prog 5 args W fun e W' => ∃ v, e = .returned v ∧ Rows.partnerCasesMatchSpecSpec.post enc Tryd.prog Tryd.f5 false true false false W args v W' := by
  have hW' := hW
  obtain ⟨p, q, hA0, hV, rfl, hfz, hnd⟩ := hW
  have hA : DataW.TrodAll enc Tryd.prog W 0 (fun _ => true) true Tryd.f5.params.toList args.toList ds p := hA0
  rw [Tryd.params5] at hA hval
  obtain ⟨v0, vs0, d0, ds0, p0, q0, hargs, rfl, rfl, h0, r0⟩ := trodAll_cons hA
  obtain ⟨v1, vs1, d1, ds1, p1, q1, rfl, rfl, rfl, h1, r1⟩ := trodAll_cons r0
  obtain ⟨v2, vs2, d2, ds2, p2, q2, rfl, rfl, rfl, h2, r2⟩ := trodAll_cons r1
  obtain ⟨rfl, rfl, rfl⟩ := trodAll_nil r2
  obtain rfl : args = #[v0, v1, v2] := by cases args; simp_all
  obtain ⟨rfl, rfl⟩ := trodVars_none hV
  obtain ⟨a, rfl, ha⟩ := open_agr (hval 0 _ v0 rfl rfl) h0
  obtain ⟨b, rfl, hb⟩ := open_agr (hval 1 _ v1 rfl rfl) h1
  obtain ⟨c, rfl, hc⟩ := open_cas (hval 2 _ v2 rfl rfl) h2
  refine (law3_any a b c W ha hb hc).mono fun e W' ⟨he, hg⟩ => ?_
  subst he
  exact ⟨_, rfl, lawpost hW' rfl hg⟩

def zero : Agr := ⟨[], [], [], [], 0, 0, false, 0, false⟩
def zeroC : Cas := ⟨[], [], [], [], 0, false⟩
theorem laid_met (os : Os) : laidMet Tryd.prog Rows.partnerCasesMatchSpecRow.laid ((laidWorld os).forCall (fun _ _ => 0) ⟨#[], #[zero.v, zero.v, zeroC.v], []⟩).memory :=
  laidMet_of_run' 8 (by kernel_rfl) (by kernel_rfl)
theorem reads (os : Os) {H : Type} (enc : TypeId × Value → H) : ∃ ds places, DataW.whole enc Tryd.prog ((laidWorld os).forCall (fun _ _ => 0) ⟨#[], #[zero.v, zero.v, zeroC.v], []⟩).memory Tryd.f5.params.toList Rows.partnerCasesMatchSpecSpec.vars false #[zero.v, zero.v, zeroC.v].toList 8 = some (ds, [], places) :=
  whole_some (by kernel_rfl)
theorem wit_v (os : Os) : ((laidWorld os).forCall (fun _ _ => 0) ⟨#[], #[zero.v, zero.v, zeroC.v], []⟩).variablesB Tryd.checked.prog = true := by kernel_rfl
theorem wit_r (os : Os) : (((laidWorld os).forCall (fun _ _ => 0) ⟨#[], #[zero.v, zero.v, zeroC.v], []⟩).heap.toList.drop Tryd.checked.prog.globals.size).take ((begin Tryd.checked.prog (fun _ _ => 0) default).world.heap.size - Tryd.checked.prog.globals.size) =
      (begin Tryd.checked.prog (fun _ _ => 0) default).world.heap.toList.drop Tryd.checked.prog.globals.size := by kernel_rfl
theorem wit_ok (os : Os) : Input.okWideB Tryd.checked.prog ((laidWorld os).forCall (fun _ _ => 0) ⟨#[], #[zero.v, zero.v, zeroC.v], []⟩) 5 ⟨#[], #[zero.v, zero.v, zeroC.v], []⟩ = true := by kernel_rfl
theorem wit_sz (os : Os) {H : Type} (enc : TypeId × Value → H) : (OpenSpec.ofChange Rows.partnerCasesMatchSpecSpec).bare.sizedB enc Tryd.prog Tryd.f5 false ((laidWorld os).forCall (fun _ _ => 0) ⟨#[], #[zero.v, zero.v, zeroC.v], []⟩).memory #[zero.v, zero.v, zeroC.v] 8 = true := by kernel_rfl
theorem no_init : Tryd.checked.prog.inits.idxOf? 5 = none := by kernel_rfl
theorem wit_row (os : Os) (H : Type) (enc : TypeId × Value → H) : (OpenSpec.ofChange Rows.partnerCasesMatchSpecSpec).preRow enc Tryd.prog Tryd.f5 Rows.partnerCasesMatchSpecRow.domain false Rows.partnerCasesMatchSpecRow.laid ((laidWorld os).forCall (fun _ _ => 0) ⟨#[], #[zero.v, zero.v, zeroC.v], []⟩).memory #[zero.v, zero.v, zeroC.v] := by
  obtain ⟨ds, places, hx⟩ := reads os enc
  exact OpenSpec.preRow_of_cond 8 hx rfl (fun k hk => by cases hk) (wit_sz os enc) (laid_met os)
theorem wit (os : Os) (H : Type) (enc : TypeId × Value → H) : ∃ (w : World) (tape : Tape) (i : Input), w.os = os ∧ (w.forCall tape i).Shaped Tryd.checked.prog ∧ i.vars = [] ∧ Input.okWide Tryd.checked.prog (w.forCall tape i) .any w.heap.size 5 i ∧
      (OpenSpec.ofChange Rows.partnerCasesMatchSpecSpec).preRow enc Tryd.checked.prog Tryd.f5 Rows.partnerCasesMatchSpecRow.domain false Rows.partnerCasesMatchSpecRow.laid (w.forCall tape i).memory i.args ∧ ({} : Assume).holds Tryd.checked.prog (lone (Frame.enter Tryd.checked.prog 5 i.args .normal) [] (w.forCall tape i)) :=
  witness_row_at (enc := enc) (C := Tryd.checked) false (laidWorld os) #[zero.v, zero.v, zeroC.v] rfl (wit_v os) (wit_r os) (wit_ok os) (wit_row os H enc)
set_option maxRecDepth 100000 in
theorem lifted (os : Os) (started : os.Started) (H : Type) (enc : TypeId × Value → H) (F : Stop.Interp) :
    ReturnsInHanded {} Tryd.checked os 5 .any ((OpenSpec.ofChange Rows.partnerCasesMatchSpecSpec).preRow enc Tryd.prog Tryd.f5 Rows.partnerCasesMatchSpecRow.domain false Rows.partnerCasesMatchSpecRow.laid) (((OpenSpec.ofChange Rows.partnerCasesMatchSpecSpec).at F).post enc Tryd.prog Tryd.f5 false true false false) :=
  returnsInHanded_of_row (C := Tryd.checked) (s := OpenSpec.ofChange Rows.partnerCasesMatchSpecSpec) own started no_init Tryd.func5 (wit os H enc)
    fun W base args ds gs before hval hW _ _ _ _ _ _ => contract H enc W base args ds gs before hval hW
theorem lm_wf : (Rows.partnerCasesMatchSpecRow.wf (OpenSpec.ofChange (OpenSpec.ofChange Rows.partnerCasesMatchSpecSpec).bare)) = true := by kernel_rfl
theorem lm_par : (Tryd.f5.params.all (Tryd.pinned.checked.prog.readableRec ·)) = true := by kernel_rfl
theorem lm_tie : (namedTie Tryd.pinned.checked.prog Rows.partnerCasesMatchSpecRow.named (OpenSpec.ofChange Rows.partnerCasesMatchSpecSpec).bare.vars) = true := by kernel_rfl
theorem lm_inPlace : (Rows.partnerCasesMatchSpecRow.inPlace == Tryd.pinned.checked.prog.inPlace 5) = true := by kernel_rfl
theorem lm_unf : (Rows.partnerCasesMatchSpecRow.unfollowed == Tryd.pinned.checked.prog.unfollowed 5) = true := by kernel_rfl
theorem lm_rec : (Rows.partnerCasesMatchSpecRow.recurses == Tryd.pinned.checked.prog.recurses 5) = true := by kernel_rfl
theorem lm_named : (Rows.partnerCasesMatchSpecRow.named == Tryd.pinned.checked.prog.varsNamed 5) = true := by kernel_rfl
theorem lm_maps : (Rows.partnerCasesMatchSpecRow.maps == (Tryd.f5.params.toList ++ (OpenSpec.ofChange Rows.partnerCasesMatchSpecSpec).bare.plain.varTypes Tryd.pinned.checked.prog).any (Tryd.pinned.checked.prog.mapsRec ·)) = true := by kernel_rfl
theorem lm_ifs : (Rows.partnerCasesMatchSpecRow.ifaces == (Tryd.f5.params.toList ++ (OpenSpec.ofChange Rows.partnerCasesMatchSpecSpec).bare.plain.varTypes Tryd.pinned.checked.prog).any (Tryd.pinned.checked.prog.ifacesRec ·)) = true := by kernel_rfl
theorem lm_mo : (Rows.partnerCasesMatchSpecRow.mapsOut == Tryd.pinned.checked.prog.mapsAmong Tryd.f5.resultTypes.toList) = true := by kernel_rfl
theorem lm_loops : (Rows.partnerCasesMatchSpecRow.loops == (Tryd.f5.params.toList ++ (OpenSpec.ofChange Rows.partnerCasesMatchSpecSpec).bare.plain.varTypes Tryd.pinned.checked.prog).any (Tryd.pinned.checked.prog.loopsFrom ·)) = true := by kernel_rfl
theorem lm_wk : (Rows.partnerCasesMatchSpecRow.wideKeys == (Tryd.f5.params.toList ++ (OpenSpec.ofChange Rows.partnerCasesMatchSpecSpec).bare.plain.varTypes Tryd.pinned.checked.prog ++ Tryd.f5.resultTypes.toList).any (Tryd.pinned.checked.prog.wideKeysFrom ·)) = true := by kernel_rfl
theorem lm_vars : ((OpenSpec.ofChange Rows.partnerCasesMatchSpecSpec).bare.vars.all (Tryd.pinned.checked.prog.varReadable ·)) = true := by kernel_rfl
theorem lm_res : (Tryd.f5.resultTypes.all (fun t => Tryd.pinned.checked.prog.readableRec t && decide (t < Tryd.pinned.checked.prog.types.size))) = true := by kernel_rfl
theorem lm_io : (Rows.partnerCasesMatchSpecRow.ifacesOut == Tryd.f5.resultTypes.toList.any (Tryd.pinned.checked.prog.ifacesRec ·)) = true := by kernel_rfl
theorem lm_lo : (Rows.partnerCasesMatchSpecRow.loopsOut == Tryd.f5.resultTypes.toList.any (Tryd.pinned.checked.prog.loopsFrom ·)) = true := by kernel_rfl
theorem lm_kinds : (Rows.partnerCasesMatchSpecRow.kinds == (if Rows.partnerCasesMatchSpecRow.domain.isEmpty then [] else Tryd.f5.params.toList.map fun t => match Tryd.pinned.checked.prog.underlying t with | some (.int k) => some k | _ => none)) = true := by kernel_rfl
theorem lm_make : (Tryd.pinned.checked.prog.make == some Rows.partnerCasesMatchSpecRow.make) = true := by kernel_rfl
theorem lm_veiled : (Rows.partnerCasesMatchSpecRow.veiled == (Tryd.f5.params.toList ++ (OpenSpec.ofChange Rows.partnerCasesMatchSpecSpec).bare.plain.varTypes Tryd.pinned.checked.prog ++ Tryd.f5.resultTypes.toList).any (Tryd.pinned.checked.prog.veiledRec ·)) = true := by kernel_rfl
theorem lm_vf : (Rows.partnerCasesMatchSpecRow.veiledFits Tryd.pinned.checked.prog Tryd.f5.params.toList (Tryd.f5.params.toList ++ (OpenSpec.ofChange Rows.partnerCasesMatchSpecSpec).bare.plain.varTypes Tryd.pinned.checked.prog ++ Tryd.f5.resultTypes.toList)) = true := by kernel_rfl
set_option maxRecDepth 100000 in
theorem closed : joinedFacts Tryd.pinned.checked.prog 5 Tryd.f5 (OpenSpec.ofChange Rows.partnerCasesMatchSpecSpec).bare Rows.partnerCasesMatchSpecRow = true :=
  joined_mk lm_wf laidOut pf_maps lm_par lm_tie rfl pf_stops rfl pf_knobs lm_inPlace lm_unf lm_rec lm_named lm_maps lm_ifs lm_mo lm_loops lm_wk lm_vars lm_res lm_io lm_lo (pf_pk rfl) rfl pf_heard pf_enter (pf_lift rfl) lm_make lm_kinds rfl lm_veiled lm_vf
theorem named_f : Tryd.pinned.checked.prog.funcNamed Rows.partnerCasesMatchSpecRow.func = some 5 := by kernel_rfl
theorem said : Rows.PartnerCasesMatchSpecSaid :=
  OpenClaim.holds_of_cond 5 Tryd.f5 rfl rfl rfl rfl rfl rfl rfl ⟨rfl, rfl, rfl, rfl, rfl⟩ rfl rfl rfl rfl rfl named_f Tryd.func5 closed
    (of_decide_eq_true (by kernel_rfl)) (by unfold Func.isWrapper; first | (rw [if_pos (by decide +kernel)]; kernel_rfl) | (rw [if_neg (by decide +kernel)]; exact ⟨rfl, rfl⟩))
    (fun os started H enc _ F => by rw [OpenClaim.pre_eq_preRow]; exact lifted os started H enc F)
theorem plain (f : FuncId) (fn : Func) (hf : Tryd.pinned.checked.prog.funcNamed Rows.partnerCasesMatchSpecRow.func = some f) (hfn : Tryd.pinned.checked.prog.funcs[f]? = some fn) :
    true = Tryd.pinned.checked.prog.looks [] ∧ ∀ (j : Nat) t, fn.params[j]? = some t → Tryd.pinned.checked.prog.wantsStandIn t = false := by
  obtain rfl : f = 5 := Option.some.inj (named_f.symm.trans hf) |>.symm
  obtain rfl : fn = Tryd.f5 := (Option.some.inj (Tryd.func5.symm.trans hfn)).symm
  refine ⟨pf_looks, fun j t ht => ?_⟩
  rw [Tryd.params5] at ht
  have ht' : t = 23 ∨ t = 37 := by simpa using Array.mem_of_getElem? ht
  rcases ht' with rfl | rfl
  · exact (show Tryd.prog.wantsStandIn 23 = false by kernel_rfl)
  · exact (show Tryd.prog.wantsStandIn 37 = false by kernel_rfl)
theorem card : Rows.PartnerCasesMatchSpecCardSaid :=
  Claim7.holds_tied_plain_at .later [] _ _ _ _ said (fun _ h => by cases h) (by kernel_rfl) (fun _ h => by cases h) partnerCasesMatchSpec_row_tie rfl ⟨rfl, rfl⟩ (by kernel_rfl) rfl plain (by kernel_rfl)

end Go.Proofs.YtdopillligfdiaaDoor.cases
