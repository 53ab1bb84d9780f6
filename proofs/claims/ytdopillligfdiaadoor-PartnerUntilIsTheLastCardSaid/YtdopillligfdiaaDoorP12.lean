/- PartnerUntilIsTheLast: for every slice of partners, every slice of agreements, every case and every number the law returns true and turns nothing that was there. -/
import Derived.Test.YtdopillligfdiaaDoorNW
import Derived.Test.YtdopillligfdiaaDoorLE
namespace Go.Proofs.YtdopillligfdiaaDoor.untils
set_option linter.unusedSimpArgs false
set_option linter.unusedVariables false
open Go.ChangeShapes Go.WideShapes Go.ChangeAt Go.RowKit Go.Deep

theorem lawpost {H : Type} {enc : TypeId × Value → H} {W W' : World} {args : Array Value} {ds gs : List (DataW H)} {before : List MemPlace} (hW : DataW.Whole enc Tryd.prog Tryd.f11.params.toList Rows.partnerUntilIsTheLastSpec.vars false W args.toList ds gs before) (hs : Rows.partnerUntilIsTheLastSpec.fn H (ds ++ gs) = { results := [.lit (.bool true)], args := ds }) (hg : Ext W W') :
    Rows.partnerUntilIsTheLastSpec.post enc Tryd.prog Tryd.f11 false true false false W args (.bool true) W' :=
  law_post laidOut rfl (by kernel_rfl) Tryd.underlying4 (by
    rw [Tryd.params11]
    intro t ht
    have ht' : t = 29 ∨ t = 59 ∨ t = 37 ∨ t = 3 := by simpa using ht
    rcases ht' with rfl | rfl | rfl | rfl
    · exact ⟨by kernel_rfl, of_decide_eq_true (by kernel_rfl)⟩
    · exact ⟨by kernel_rfl, of_decide_eq_true (by kernel_rfl)⟩
    · exact ⟨by kernel_rfl, of_decide_eq_true (by kernel_rfl)⟩
    · exact ⟨by kernel_rfl, of_decide_eq_true (by kernel_rfl)⟩) hW hs hg.below

set_option maxRecDepth 100000 in
theorem contract (H : Type) (enc : TypeId × Value → H) (W : World) (base : Nat) (args : Array Value) (ds gs : List (DataW H)) (before : List MemPlace)
    (hval : ∀ (j : Nat) t v, Tryd.f11.params[j]? = some t → args[j]? = some v → Value.okWide Tryd.prog W .any base t v)
    (hW : DataW.Whole enc Tryd.prog Tryd.f11.params.toList Rows.partnerUntilIsTheLastSpec.vars false W args.toList ds gs before) :
    Calls Tryd.prog 11 args W fun e W' => ∃ v, e = .returned v ∧ Rows.partnerUntilIsTheLastSpec.post enc Tryd.prog Tryd.f11 false true false false W args v W' := by
  have hW' := hW
  obtain ⟨p, q, hA0, hV, rfl, hfz, hnd⟩ := hW
  have hA : DataW.TrodAll enc Tryd.prog W 0 (fun _ => true) true Tryd.f11.params.toList args.toList ds p := hA0
  rw [Tryd.params11] at hA hval
  obtain ⟨v0, vs0, d0, ds0, p0, q0, hargs, rfl, rfl, h0, r0⟩ := trodAll_cons hA
  obtain ⟨v1, vs1, d1, ds1, p1, q1, rfl, rfl, rfl, h1, r1⟩ := trodAll_cons r0
  obtain ⟨v2, vs2, d2, ds2, p2, q2, rfl, rfl, rfl, h2, r2⟩ := trodAll_cons r1
  obtain ⟨v3, vs3, d3, ds3, p3, q3, rfl, rfl, rfl, h3, r3⟩ := trodAll_cons r2
  obtain ⟨rfl, rfl, rfl⟩ := trodAll_nil r3
  obtain rfl : args = #[v0, v1, v2, v3] := by cases args; simp_all
  obtain ⟨rfl, rfl⟩ := trodVars_none hV
  obtain ⟨ps, hps, f0⟩ := open_pars (hval 0 _ v0 rfl rfl) h0
  obtain ⟨l, hl, f1⟩ := open_agrs (hval 1 _ v1 rfl rfl) h1
  obtain ⟨c, hc, f2⟩ := open_case (hval 2 _ v2 rfl rfl) h2
  obtain ⟨n, rfl, _⟩ := okWide_int Tryd.underlying3 (hval 3 _ v3 rfl rfl)
  refine (sem_true (law12_sem ps l c n hps hl hc) (vs := [v0, v1, v2, .int .i64 n]) rfl fun i d v hd hv => ?_).mono fun e W' ⟨he, hg⟩ => ?_
  · match i, hd, hv with
    | 0, hd, hv => cases hd; cases hv; exact f0
    | 1, hd, hv => cases hd; cases hv; exact f1
    | 2, hd, hv => cases hd; cases hv; exact f2
    | 3, hd, hv => cases hd; cases hv; exact .int _ n
    | i + 4, hd, _ => simp at hd
  subst he
  exact ⟨_, rfl, lawpost hW' rfl hg⟩

theorem laid_met (os : Os) : laidMet Tryd.prog Rows.partnerUntilIsTheLastRow.laid ((laidWorld os).forCall (fun _ _ => 0) ⟨#[], #[.slice none 0 0, .slice none 0 0, .agg #[sv [], sv [], sv [], sv [], .int .i64 0, .bool false], .int .i64 0], []⟩).memory :=
  laidMet_of_run' 8 (by kernel_rfl) (by kernel_rfl)
theorem reads (os : Os) {H : Type} (enc : TypeId × Value → H) : ∃ ds places, DataW.whole enc Tryd.prog ((laidWorld os).forCall (fun _ _ => 0) ⟨#[], #[.slice none 0 0, .slice none 0 0, .agg #[sv [], sv [], sv [], sv [], .int .i64 0, .bool false], .int .i64 0], []⟩).memory Tryd.f11.params.toList Rows.partnerUntilIsTheLastSpec.vars false #[.slice none 0 0, .slice none 0 0, .agg #[sv [], sv [], sv [], sv [], .int .i64 0, .bool false], .int .i64 0].toList 8 = some (ds, [], places) :=
  whole_some (by kernel_rfl)
theorem wit_v (os : Os) : ((laidWorld os).forCall (fun _ _ => 0) ⟨#[], #[.slice none 0 0, .slice none 0 0, .agg #[sv [], sv [], sv [], sv [], .int .i64 0, .bool false], .int .i64 0], []⟩).variablesB Tryd.checked.prog = true := by kernel_rfl
theorem wit_r (os : Os) : (((laidWorld os).forCall (fun _ _ => 0) ⟨#[], #[.slice none 0 0, .slice none 0 0, .agg #[sv [], sv [], sv [], sv [], .int .i64 0, .bool false], .int .i64 0], []⟩).heap.toList.drop Tryd.checked.prog.globals.size).take ((begin Tryd.checked.prog (fun _ _ => 0) default).world.heap.size - Tryd.checked.prog.globals.size) =
      (begin Tryd.checked.prog (fun _ _ => 0) default).world.heap.toList.drop Tryd.checked.prog.globals.size := by kernel_rfl
theorem wit_ok (os : Os) : Input.okWideB Tryd.checked.prog ((laidWorld os).forCall (fun _ _ => 0) ⟨#[], #[.slice none 0 0, .slice none 0 0, .agg #[sv [], sv [], sv [], sv [], .int .i64 0, .bool false], .int .i64 0], []⟩) 11 ⟨#[], #[.slice none 0 0, .slice none 0 0, .agg #[sv [], sv [], sv [], sv [], .int .i64 0, .bool false], .int .i64 0], []⟩ = true := by kernel_rfl
theorem wit_sz (os : Os) {H : Type} (enc : TypeId × Value → H) : (OpenSpec.ofChange Rows.partnerUntilIsTheLastSpec).bare.sizedB enc Tryd.prog Tryd.f11 false ((laidWorld os).forCall (fun _ _ => 0) ⟨#[], #[.slice none 0 0, .slice none 0 0, .agg #[sv [], sv [], sv [], sv [], .int .i64 0, .bool false], .int .i64 0], []⟩).memory #[.slice none 0 0, .slice none 0 0, .agg #[sv [], sv [], sv [], sv [], .int .i64 0, .bool false], .int .i64 0] 8 = true := by kernel_rfl
theorem no_init : Tryd.checked.prog.inits.idxOf? 11 = none := by kernel_rfl
theorem wit_row (os : Os) (H : Type) (enc : TypeId × Value → H) : (OpenSpec.ofChange Rows.partnerUntilIsTheLastSpec).preRow enc Tryd.prog Tryd.f11 Rows.partnerUntilIsTheLastRow.domain false Rows.partnerUntilIsTheLastRow.laid ((laidWorld os).forCall (fun _ _ => 0) ⟨#[], #[.slice none 0 0, .slice none 0 0, .agg #[sv [], sv [], sv [], sv [], .int .i64 0, .bool false], .int .i64 0], []⟩).memory #[.slice none 0 0, .slice none 0 0, .agg #[sv [], sv [], sv [], sv [], .int .i64 0, .bool false], .int .i64 0] := by
  obtain ⟨ds, places, hx⟩ := reads os enc
  exact OpenSpec.preRow_of_cond 8 hx rfl (fun k hk => by cases hk) (wit_sz os enc) (laid_met os)
theorem wit (os : Os) (H : Type) (enc : TypeId × Value → H) : ∃ (w : World) (tape : Tape) (i : Input), w.os = os ∧ (w.forCall tape i).Shaped Tryd.checked.prog ∧ i.vars = [] ∧ Input.okWide Tryd.checked.prog (w.forCall tape i) .any w.heap.size 11 i ∧
      (OpenSpec.ofChange Rows.partnerUntilIsTheLastSpec).preRow enc Tryd.checked.prog Tryd.f11 Rows.partnerUntilIsTheLastRow.domain false Rows.partnerUntilIsTheLastRow.laid (w.forCall tape i).memory i.args ∧ ({} : Assume).holds Tryd.checked.prog (lone (Frame.enter Tryd.checked.prog 11 i.args .normal) [] (w.forCall tape i)) :=
  witness_row_at (enc := enc) (C := Tryd.checked) false (laidWorld os) #[.slice none 0 0, .slice none 0 0, .agg #[sv [], sv [], sv [], sv [], .int .i64 0, .bool false], .int .i64 0] rfl (wit_v os) (wit_r os) (wit_ok os) (wit_row os H enc)
set_option maxRecDepth 100000 in
theorem lifted (os : Os) (started : os.Started) (H : Type) (enc : TypeId × Value → H) (F : Stop.Interp) :
    ReturnsInHanded {} Tryd.checked os 11 .any ((OpenSpec.ofChange Rows.partnerUntilIsTheLastSpec).preRow enc Tryd.prog Tryd.f11 Rows.partnerUntilIsTheLastRow.domain false Rows.partnerUntilIsTheLastRow.laid) (((OpenSpec.ofChange Rows.partnerUntilIsTheLastSpec).at F).post enc Tryd.prog Tryd.f11 false true false false) :=
  returnsInHanded_of_row (C := Tryd.checked) (s := OpenSpec.ofChange Rows.partnerUntilIsTheLastSpec) own started no_init Tryd.func11 (wit os H enc)
    fun W base args ds gs before hval hW _ _ _ _ _ _ => contract H enc W base args ds gs before hval hW
theorem lm_wf : (Rows.partnerUntilIsTheLastRow.wf (OpenSpec.ofChange (OpenSpec.ofChange Rows.partnerUntilIsTheLastSpec).bare)) = true := by kernel_rfl
theorem lm_par : (Tryd.f11.params.all (Tryd.pinned.checked.prog.readableRec ·)) = true := by kernel_rfl
theorem lm_tie : (namedTie Tryd.pinned.checked.prog Rows.partnerUntilIsTheLastRow.named (OpenSpec.ofChange Rows.partnerUntilIsTheLastSpec).bare.vars) = true := by kernel_rfl
theorem lm_inPlace : (Rows.partnerUntilIsTheLastRow.inPlace == Tryd.pinned.checked.prog.inPlace 11) = true := by kernel_rfl
theorem lm_unf : (Rows.partnerUntilIsTheLastRow.unfollowed == Tryd.pinned.checked.prog.unfollowed 11) = true := by kernel_rfl
theorem lm_rec : (Rows.partnerUntilIsTheLastRow.recurses == Tryd.pinned.checked.prog.recurses 11) = true := by kernel_rfl
theorem lm_named : (Rows.partnerUntilIsTheLastRow.named == Tryd.pinned.checked.prog.varsNamed 11) = true := by kernel_rfl
theorem lm_maps : (Rows.partnerUntilIsTheLastRow.maps == (Tryd.f11.params.toList ++ (OpenSpec.ofChange Rows.partnerUntilIsTheLastSpec).bare.plain.varTypes Tryd.pinned.checked.prog).any (Tryd.pinned.checked.prog.mapsRec ·)) = true := by kernel_rfl
theorem lm_ifs : (Rows.partnerUntilIsTheLastRow.ifaces == (Tryd.f11.params.toList ++ (OpenSpec.ofChange Rows.partnerUntilIsTheLastSpec).bare.plain.varTypes Tryd.pinned.checked.prog).any (Tryd.pinned.checked.prog.ifacesRec ·)) = true := by kernel_rfl
theorem lm_mo : (Rows.partnerUntilIsTheLastRow.mapsOut == Tryd.pinned.checked.prog.mapsAmong Tryd.f11.resultTypes.toList) = true := by kernel_rfl
theorem lm_loops : (Rows.partnerUntilIsTheLastRow.loops == (Tryd.f11.params.toList ++ (OpenSpec.ofChange Rows.partnerUntilIsTheLastSpec).bare.plain.varTypes Tryd.pinned.checked.prog).any (Tryd.pinned.checked.prog.loopsFrom ·)) = true := by kernel_rfl
theorem lm_wk : (Rows.partnerUntilIsTheLastRow.wideKeys == (Tryd.f11.params.toList ++ (OpenSpec.ofChange Rows.partnerUntilIsTheLastSpec).bare.plain.varTypes Tryd.pinned.checked.prog ++ Tryd.f11.resultTypes.toList).any (Tryd.pinned.checked.prog.wideKeysFrom ·)) = true := by kernel_rfl
theorem lm_vars : ((OpenSpec.ofChange Rows.partnerUntilIsTheLastSpec).bare.vars.all (Tryd.pinned.checked.prog.varReadable ·)) = true := by kernel_rfl
theorem lm_res : (Tryd.f11.resultTypes.all (fun t => Tryd.pinned.checked.prog.readableRec t && decide (t < Tryd.pinned.checked.prog.types.size))) = true := by kernel_rfl
theorem lm_io : (Rows.partnerUntilIsTheLastRow.ifacesOut == Tryd.f11.resultTypes.toList.any (Tryd.pinned.checked.prog.ifacesRec ·)) = true := by kernel_rfl
theorem lm_lo : (Rows.partnerUntilIsTheLastRow.loopsOut == Tryd.f11.resultTypes.toList.any (Tryd.pinned.checked.prog.loopsFrom ·)) = true := by kernel_rfl
theorem lm_kinds : (Rows.partnerUntilIsTheLastRow.kinds == (if Rows.partnerUntilIsTheLastRow.domain.isEmpty then [] else Tryd.f11.params.toList.map fun t => match Tryd.pinned.checked.prog.underlying t with | some (.int k) => some k | _ => none)) = true := by kernel_rfl
theorem lm_make : (Tryd.pinned.checked.prog.make == some Rows.partnerUntilIsTheLastRow.make) = true := by kernel_rfl
theorem lm_veiled : (Rows.partnerUntilIsTheLastRow.veiled == (Tryd.f11.params.toList ++ (OpenSpec.ofChange Rows.partnerUntilIsTheLastSpec).bare.plain.varTypes Tryd.pinned.checked.prog ++ Tryd.f11.resultTypes.toList).any (Tryd.pinned.checked.prog.veiledRec ·)) = true := by kernel_rfl
theorem lm_vf : (Rows.partnerUntilIsTheLastRow.veiledFits Tryd.pinned.checked.prog Tryd.f11.params.toList (Tryd.f11.params.toList ++ (OpenSpec.ofChange Rows.partnerUntilIsTheLastSpec).bare.plain.varTypes Tryd.pinned.checked.prog ++ Tryd.f11.resultTypes.toList)) = true := by kernel_rfl
set_option maxRecDepth 100000 in
theorem closed : joinedFacts Tryd.pinned.checked.prog 11 Tryd.f11 (OpenSpec.ofChange Rows.partnerUntilIsTheLastSpec).bare Rows.partnerUntilIsTheLastRow = true :=
  joined_mk lm_wf laidOut pf_maps lm_par lm_tie rfl pf_stops rfl pf_knobs lm_inPlace lm_unf lm_rec lm_named lm_maps lm_ifs lm_mo lm_loops lm_wk lm_vars lm_res lm_io lm_lo (pf_pk rfl) rfl pf_heard pf_enter (pf_lift rfl) lm_make lm_kinds rfl lm_veiled lm_vf
theorem named_f : Tryd.pinned.checked.prog.funcNamed Rows.partnerUntilIsTheLastRow.func = some 11 := by kernel_rfl
theorem said : Rows.PartnerUntilIsTheLastSaid :=
  OpenClaim.holds_of_cond 11 Tryd.f11 rfl rfl rfl rfl rfl rfl rfl ⟨rfl, rfl, rfl, rfl, rfl⟩ rfl rfl rfl rfl rfl named_f Tryd.func11 closed
    (of_decide_eq_true (by kernel_rfl)) (by unfold Func.isWrapper; first | (rw [if_pos (by decide +kernel)]; kernel_rfl) | (rw [if_neg (by decide +kernel)]; exact ⟨rfl, rfl⟩))
    (fun os started H enc _ F => by rw [OpenClaim.pre_eq_preRow]; exact lifted os started H enc F)

end Go.Proofs.YtdopillligfdiaaDoor.untils
