/- PartnerDaysMatchSpec: for every slice of partners, every slice of agreements, and every case the law returns true and turns nothing that was there. -/
import Derived.Test.YthbhjladfniboaaGreatDoorZ15
import Derived.Test.YthbhjladfniboaaGreatDoorZ17
namespace Go.Proofs.YthbhjladfniboaaGreatDoor.days
set_option linter.unusedSimpArgs false
set_option linter.unusedVariables false
open Go.ChangeShapes Go.WideShapes Go.ChangeAt Go.RowKit Go.Deep

theorem lawpost {H : Type} {enc : TypeId × Value → H} {W W' : World} {args : Array Value} {ds gs : List (DataW H)} {before : List MemPlace} (hW : DataW.Whole enc Tryz.prog Tryz.f3.params.toList Rows.partnerDaysMatchSpecSpec.vars false W args.toList ds gs before) (hs : Rows.partnerDaysMatchSpecSpec.fn H (ds ++ gs) = { results := [.lit (.bool true)], args := ds }) (hg : Ext W W') :
    Rows.partnerDaysMatchSpecSpec.post enc Tryz.prog Tryz.f3 false true false false W args (.bool true) W' :=
  law_post laidOut rfl (by kernel_rfl) Tryz.underlying4 (by
    rw [Tryz.params3]
    intro t ht
    have ht' : t = 22 ∨ t = 23 ∨ t = 25 := by simpa using ht
    rcases ht' with rfl | rfl | rfl
    · exact ⟨by kernel_rfl, of_decide_eq_true (by kernel_rfl)⟩
    · exact ⟨by kernel_rfl, of_decide_eq_true (by kernel_rfl)⟩
    · exact ⟨by kernel_rfl, of_decide_eq_true (by kernel_rfl)⟩) hW hs hg.below

set_option maxRecDepth 100000 in
theorem contract (H : Type) (enc : TypeId × Value → H) (W : World) (base : Nat) (args : Array Value) (ds gs : List (DataW H)) (before : List MemPlace)
    (hval : ∀ (j : Nat) t v, Tryz.f3.params[j]? = some t → args[j]? = some v → Value.okWide Tryz.prog W .any base t v)
    (hW : DataW.Whole enc Tryz.prog Tryz.f3.params.toList Rows.partnerDaysMatchSpecSpec.vars false W args.toList ds gs before) :
    Calls Tryz.prog 3 args W fun e W' => ∃ v, e = .returned v ∧ Rows.partnerDaysMatchSpecSpec.post enc Tryz.prog Tryz.f3 false true false false W args v W' := by
  have hW' := hW
  obtain ⟨p, q, hA0, hV, rfl, hfz, hnd⟩ := hW
  have hA : DataW.TrodAll enc Tryz.prog W 0 (fun _ => true) true Tryz.f3.params.toList args.toList ds p := hA0
  rw [Tryz.params3] at hA hval
  obtain ⟨v0, vs0, d0, ds0, p0, q0, hargs, rfl, rfl, h0, r0⟩ := trodAll_cons hA
  obtain ⟨v1, vs1, d1, ds1, p1, q1, rfl, rfl, rfl, h1, r1⟩ := trodAll_cons r0
  obtain ⟨v2, vs2, d2, ds2, p2, q2, rfl, rfl, rfl, h2, r2⟩ := trodAll_cons r1
  obtain ⟨rfl, rfl, rfl⟩ := trodAll_nil r2
  obtain rfl : args = #[v0, v1, v2] := by cases args; simp_all
  obtain ⟨rfl, rfl⟩ := trodVars_none hV
  obtain ⟨ps, hps, f0⟩ := open_pars (hval 0 _ v0 rfl rfl) h0
  obtain ⟨l, hl, f1⟩ := open_agrs (hval 1 _ v1 rfl rfl) h1
  obtain ⟨c, hc, f2⟩ := open_case (hval 2 _ v2 rfl rfl) h2
  refine (sem_true (law14_sem ps l c hps hl hc) (vs := [v0, v1, v2]) rfl fun i d v hd hv => ?_).mono fun e W' ⟨he, hg⟩ => ?_
  · match i, hd, hv with
    | 0, hd, hv => cases hd; cases hv; exact f0
    | 1, hd, hv => cases hd; cases hv; exact f1
    | 2, hd, hv => cases hd; cases hv; exact f2
    | i + 3, hd, _ => simp at hd
  subst he
  exact ⟨_, rfl, lawpost hW' rfl hg⟩

theorem laid_met (os : Os) : laidMet Tryz.prog Rows.partnerDaysMatchSpecRow.laid ((laidWorld os).forCall (fun _ _ => 0) ⟨#[], #[.slice none 0 0, .slice none 0 0, .agg #[sv [], sv [], sv [], sv [], .int .i64 0, .bool false]], []⟩).memory :=
  laidMet_of_run' 8 (by kernel_rfl) (by kernel_rfl)
theorem reads (os : Os) {H : Type} (enc : TypeId × Value → H) : ∃ ds places, DataW.whole enc Tryz.prog ((laidWorld os).forCall (fun _ _ => 0) ⟨#[], #[.slice none 0 0, .slice none 0 0, .agg #[sv [], sv [], sv [], sv [], .int .i64 0, .bool false]], []⟩).memory Tryz.f3.params.toList Rows.partnerDaysMatchSpecSpec.vars false #[.slice none 0 0, .slice none 0 0, .agg #[sv [], sv [], sv [], sv [], .int .i64 0, .bool false]].toList 8 = some (ds, [], places) :=
  whole_some (by kernel_rfl)
theorem wit_v (os : Os) : ((laidWorld os).forCall (fun _ _ => 0) ⟨#[], #[.slice none 0 0, .slice none 0 0, .agg #[sv [], sv [], sv [], sv [], .int .i64 0, .bool false]], []⟩).variablesB Tryz.checked.prog = true := by kernel_rfl
theorem wit_r (os : Os) : (((laidWorld os).forCall (fun _ _ => 0) ⟨#[], #[.slice none 0 0, .slice none 0 0, .agg #[sv [], sv [], sv [], sv [], .int .i64 0, .bool false]], []⟩).heap.toList.drop Tryz.checked.prog.globals.size).take ((begin Tryz.checked.prog (fun _ _ => 0) default).world.heap.size - Tryz.checked.prog.globals.size) =
      (begin Tryz.checked.prog (fun _ _ => 0) default).world.heap.toList.drop Tryz.checked.prog.globals.size := by kernel_rfl
theorem wit_ok (os : Os) : Input.okWideB Tryz.checked.prog ((laidWorld os).forCall (fun _ _ => 0) ⟨#[], #[.slice none 0 0, .slice none 0 0, .agg #[sv [], sv [], sv [], sv [], .int .i64 0, .bool false]], []⟩) 3 ⟨#[], #[.slice none 0 0, .slice none 0 0, .agg #[sv [], sv [], sv [], sv [], .int .i64 0, .bool false]], []⟩ = true := by kernel_rfl
theorem wit_sz (os : Os) {H : Type} (enc : TypeId × Value → H) : (OpenSpec.ofChange Rows.partnerDaysMatchSpecSpec).bare.sizedB enc Tryz.prog Tryz.f3 false ((laidWorld os).forCall (fun _ _ => 0) ⟨#[], #[.slice none 0 0, .slice none 0 0, .agg #[sv [], sv [], sv [], sv [], .int .i64 0, .bool false]], []⟩).memory #[.slice none 0 0, .slice none 0 0, .agg #[sv [], sv [], sv [], sv [], .int .i64 0, .bool false]] 8 = true := by kernel_rfl
theorem no_init : Tryz.checked.prog.inits.idxOf? 3 = none := by kernel_rfl
theorem wit_row (os : Os) (H : Type) (enc : TypeId × Value → H) : (OpenSpec.ofChange Rows.partnerDaysMatchSpecSpec).preRow enc Tryz.prog Tryz.f3 Rows.partnerDaysMatchSpecRow.domain false Rows.partnerDaysMatchSpecRow.laid ((laidWorld os).forCall (fun _ _ => 0) ⟨#[], #[.slice none 0 0, .slice none 0 0, .agg #[sv [], sv [], sv [], sv [], .int .i64 0, .bool false]], []⟩).memory #[.slice none 0 0, .slice none 0 0, .agg #[sv [], sv [], sv [], sv [], .int .i64 0, .bool false]] := by
  obtain ⟨ds, places, hx⟩ := reads os enc
  exact OpenSpec.preRow_of_cond 8 hx rfl (fun k hk => by cases hk) (wit_sz os enc) (laid_met os)
theorem wit (os : Os) (H : Type) (enc : TypeId × Value → H) : ∃ (w : World) (tape : Tape) (i : Input), w.os = os ∧ (w.forCall tape i).Shaped Tryz.checked.prog ∧ i.vars = [] ∧ Input.okWide Tryz.checked.prog (w.forCall tape i) .any w.heap.size 3 i ∧
      (OpenSpec.ofChange Rows.partnerDaysMatchSpecSpec).preRow enc Tryz.checked.prog Tryz.f3 Rows.partnerDaysMatchSpecRow.domain false Rows.partnerDaysMatchSpecRow.laid (w.forCall tape i).memory i.args ∧ ({} : Assume).holds Tryz.checked.prog (lone (Frame.enter Tryz.checked.prog 3 i.args .normal) [] (w.forCall tape i)) :=
  witness_row_at (enc := enc) (C := Tryz.checked) false (laidWorld os) #[.slice none 0 0, .slice none 0 0, .agg #[sv [], sv [], sv [], sv [], .int .i64 0, .bool false]] rfl (wit_v os) (wit_r os) (wit_ok os) (wit_row os H enc)
set_option maxRecDepth 100000 in
theorem lifted (os : Os) (started : os.Started) (H : Type) (enc : TypeId × Value → H) (F : Stop.Interp) :
    ReturnsInHanded {} Tryz.checked os 3 .any ((OpenSpec.ofChange Rows.partnerDaysMatchSpecSpec).preRow enc Tryz.prog Tryz.f3 Rows.partnerDaysMatchSpecRow.domain false Rows.partnerDaysMatchSpecRow.laid) (((OpenSpec.ofChange Rows.partnerDaysMatchSpecSpec).at F).post enc Tryz.prog Tryz.f3 false true false false) :=
  returnsInHanded_of_row (C := Tryz.checked) (s := OpenSpec.ofChange Rows.partnerDaysMatchSpecSpec) own started no_init Tryz.func3 (wit os H enc)
    fun W base args ds gs before hval hW _ _ _ _ _ _ => contract H enc W base args ds gs before hval hW
theorem lm_wf : (Rows.partnerDaysMatchSpecRow.wf (OpenSpec.ofChange (OpenSpec.ofChange Rows.partnerDaysMatchSpecSpec).bare)) = true := by kernel_rfl
theorem lm_par : (Tryz.f3.params.all (Tryz.pinned.checked.prog.readableRec ·)) = true := by kernel_rfl
theorem lm_tie : (namedTie Tryz.pinned.checked.prog Rows.partnerDaysMatchSpecRow.named (OpenSpec.ofChange Rows.partnerDaysMatchSpecSpec).bare.vars) = true := by kernel_rfl
theorem lm_inPlace : (Rows.partnerDaysMatchSpecRow.inPlace == Tryz.pinned.checked.prog.inPlace 3) = true := by kernel_rfl
theorem lm_unf : (Rows.partnerDaysMatchSpecRow.unfollowed == Tryz.pinned.checked.prog.unfollowed 3) = true := by kernel_rfl
theorem lm_rec : (Rows.partnerDaysMatchSpecRow.recurses == Tryz.pinned.checked.prog.recurses 3) = true := by kernel_rfl
theorem lm_named : (Rows.partnerDaysMatchSpecRow.named == Tryz.pinned.checked.prog.varsNamed 3) = true := by kernel_rfl
theorem lm_maps : (Rows.partnerDaysMatchSpecRow.maps == (Tryz.f3.params.toList ++ (OpenSpec.ofChange Rows.partnerDaysMatchSpecSpec).bare.plain.varTypes Tryz.pinned.checked.prog).any (Tryz.pinned.checked.prog.mapsRec ·)) = true := by kernel_rfl
theorem lm_ifs : (Rows.partnerDaysMatchSpecRow.ifaces == (Tryz.f3.params.toList ++ (OpenSpec.ofChange Rows.partnerDaysMatchSpecSpec).bare.plain.varTypes Tryz.pinned.checked.prog).any (Tryz.pinned.checked.prog.ifacesRec ·)) = true := by kernel_rfl
theorem lm_mo : (Rows.partnerDaysMatchSpecRow.mapsOut == Tryz.pinned.checked.prog.mapsAmong Tryz.f3.resultTypes.toList) = true := by kernel_rfl
theorem lm_loops : (Rows.partnerDaysMatchSpecRow.loops == (Tryz.f3.params.toList ++ (OpenSpec.ofChange Rows.partnerDaysMatchSpecSpec).bare.plain.varTypes Tryz.pinned.checked.prog).any (Tryz.pinned.checked.prog.loopsFrom ·)) = true := by kernel_rfl
theorem lm_wk : (Rows.partnerDaysMatchSpecRow.wideKeys == (Tryz.f3.params.toList ++ (OpenSpec.ofChange Rows.partnerDaysMatchSpecSpec).bare.plain.varTypes Tryz.pinned.checked.prog ++ Tryz.f3.resultTypes.toList).any (Tryz.pinned.checked.prog.wideKeysFrom ·)) = true := by kernel_rfl
theorem lm_vars : ((OpenSpec.ofChange Rows.partnerDaysMatchSpecSpec).bare.vars.all (Tryz.pinned.checked.prog.varReadable ·)) = true := by kernel_rfl
theorem lm_res : (Tryz.f3.resultTypes.all (fun t => Tryz.pinned.checked.prog.readableRec t && decide (t < Tryz.pinned.checked.prog.types.size))) = true := by kernel_rfl
theorem lm_io : (Rows.partnerDaysMatchSpecRow.ifacesOut == Tryz.f3.resultTypes.toList.any (Tryz.pinned.checked.prog.ifacesRec ·)) = true := by kernel_rfl
theorem lm_lo : (Rows.partnerDaysMatchSpecRow.loopsOut == Tryz.f3.resultTypes.toList.any (Tryz.pinned.checked.prog.loopsFrom ·)) = true := by kernel_rfl
theorem lm_kinds : (Rows.partnerDaysMatchSpecRow.kinds == (if Rows.partnerDaysMatchSpecRow.domain.isEmpty then [] else Tryz.f3.params.toList.map fun t => match Tryz.pinned.checked.prog.underlying t with | some (.int k) => some k | _ => none)) = true := by kernel_rfl
theorem lm_make : (Tryz.pinned.checked.prog.make == some Rows.partnerDaysMatchSpecRow.make) = true := by kernel_rfl
theorem lm_veiled : (Rows.partnerDaysMatchSpecRow.veiled == (Tryz.f3.params.toList ++ (OpenSpec.ofChange Rows.partnerDaysMatchSpecSpec).bare.plain.varTypes Tryz.pinned.checked.prog ++ Tryz.f3.resultTypes.toList).any (Tryz.pinned.checked.prog.veiledRec ·)) = true := by kernel_rfl
theorem lm_vf : (Rows.partnerDaysMatchSpecRow.veiledFits Tryz.pinned.checked.prog Tryz.f3.params.toList (Tryz.f3.params.toList ++ (OpenSpec.ofChange Rows.partnerDaysMatchSpecSpec).bare.plain.varTypes Tryz.pinned.checked.prog ++ Tryz.f3.resultTypes.toList)) = true := by kernel_rfl
set_option maxRecDepth 100000 in
theorem closed : joinedFacts Tryz.pinned.checked.prog 3 Tryz.f3 (OpenSpec.ofChange Rows.partnerDaysMatchSpecSpec).bare Rows.partnerDaysMatchSpecRow = true :=
  joined_mk lm_wf laidOut pf_maps lm_par lm_tie rfl pf_stops rfl pf_knobs lm_inPlace lm_unf lm_rec lm_named lm_maps lm_ifs lm_mo lm_loops lm_wk lm_vars lm_res lm_io lm_lo (pf_pk rfl) rfl pf_heard pf_enter (pf_lift rfl) lm_make lm_kinds rfl lm_veiled lm_vf
theorem named_f : Tryz.pinned.checked.prog.funcNamed Rows.partnerDaysMatchSpecRow.func = some 3 := by kernel_rfl
theorem said : Rows.PartnerDaysMatchSpecSaid :=
  OpenClaim.holds_of_cond 3 Tryz.f3 rfl rfl rfl rfl rfl rfl rfl ⟨rfl, rfl, rfl, rfl, rfl⟩ rfl rfl rfl rfl rfl named_f Tryz.func3 closed
    (of_decide_eq_true (by kernel_rfl)) (by unfold Func.isWrapper; first | (rw [if_pos (by decide +kernel)]; kernel_rfl) | (rw [if_neg (by decide +kernel)]; exact ⟨rfl, rfl⟩))
    (fun os started H enc _ F => by rw [OpenClaim.pre_eq_preRow]; exact lifted os started H enc F)

end Go.Proofs.YthbhjladfniboaaGreatDoor.days
