/- PartnerNeverIsNever: for every slice of partners, every slice of agreements, every two texts and every number the law returns true and turns nothing that was there. -/
import Derived.Test.YthbhjladfniboaaDoorZ12
import Derived.Test.YthbhjladfniboaaDoorZ14
namespace Go.Proofs.YthbhjladfniboaaDoor.nevers
set_option linter.unusedSimpArgs false
set_option linter.unusedVariables false
open Go.ChangeShapes Go.WideShapes Go.ChangeAt Go.RowKit Go.Deep

theorem lawpost {H : Type} {enc : TypeId × Value → H} {W W' : World} {args : Array Value} {ds gs : List (DataW H)} {before : List MemPlace} (hW : DataW.Whole enc Tryd.prog Tryd.f6.params.toList Rows.partnerNeverIsNeverSpec.vars false W args.toList ds gs before) (hs : Rows.partnerNeverIsNeverSpec.fn H (ds ++ gs) = { results := [.lit (.bool true)], args := ds }) (hg : Ext W W') :
    Rows.partnerNeverIsNeverSpec.post enc Tryd.prog Tryd.f6 false true false false W args (.bool true) W' :=
  law_post laidOut rfl (by kernel_rfl) Tryd.underlying4 (by
    rw [Tryd.params6]
    intro t ht
    have ht' : t = 49 ∨ t = 50 ∨ t = 9 ∨ t = 3 := by simpa using ht
    rcases ht' with rfl | rfl | rfl | rfl
    · exact ⟨by kernel_rfl, of_decide_eq_true (by kernel_rfl)⟩
    · exact ⟨by kernel_rfl, of_decide_eq_true (by kernel_rfl)⟩
    · exact ⟨by kernel_rfl, of_decide_eq_true (by kernel_rfl)⟩
    · exact ⟨by kernel_rfl, of_decide_eq_true (by kernel_rfl)⟩) hW hs hg.below

set_option maxRecDepth 100000 in
theorem contract (H : Type) (enc : TypeId × Value → H) (W : World) (base : Nat) (args : Array Value) (ds gs : List (DataW H)) (before : List MemPlace)
    (hval : ∀ (j : Nat) t v, Tryd.f6.params[j]? = some t → args[j]? = some v → Value.okWide Tryd.prog W .any base t v)
    (hW : DataW.Whole enc Tryd.prog Tryd.f6.params.toList Rows.partnerNeverIsNeverSpec.vars false W args.toList ds gs before) :
    Calls Tryd.prog 6 args W fun e W' => ∃ v, e = .returned v ∧ Rows.partnerNeverIsNeverSpec.post enc Tryd.prog Tryd.f6 false true false false W args v W' := by
  have hW' := hW
  obtain ⟨p, q, hA0, hV, rfl, hfz, hnd⟩ := hW
  have hA : DataW.TrodAll enc Tryd.prog W 0 (fun _ => true) true Tryd.f6.params.toList args.toList ds p := hA0
  rw [Tryd.params6] at hA hval
  obtain ⟨v0, vs0, d0, ds0, p0, q0, hargs, rfl, rfl, h0, r0⟩ := trodAll_cons hA
  obtain ⟨v1, vs1, d1, ds1, p1, q1, rfl, rfl, rfl, h1, r1⟩ := trodAll_cons r0
  obtain ⟨v2, vs2, d2, ds2, p2, q2, rfl, rfl, rfl, h2, r2⟩ := trodAll_cons r1
  obtain ⟨v3, vs3, d3, ds3, p3, q3, rfl, rfl, rfl, h3, r3⟩ := trodAll_cons r2
  obtain ⟨v4, vs4, d4, ds4, p4, q4, rfl, rfl, rfl, h4, r4⟩ := trodAll_cons r3
  obtain ⟨rfl, rfl, rfl⟩ := trodAll_nil r4
  obtain rfl : args = #[v0, v1, v2, v3, v4] := by cases args; simp_all
  obtain ⟨rfl, rfl⟩ := trodVars_none hV
  obtain ⟨ps, hps, f0⟩ := open_pars (hval 0 _ v0 rfl rfl) h0
  obtain ⟨l, hl, f1⟩ := open_agrs (hval 1 _ v1 rfl rfl) h1
  obtain ⟨m, rfl, hm⟩ := open_str (hval 2 _ v2 rfl rfl) h2
  obtain ⟨u, rfl, hu⟩ := open_str (hval 3 _ v3 rfl rfl) h3
  obtain ⟨n, rfl, _⟩ := okWide_int Tryd.underlying3 (hval 4 _ v4 rfl rfl)
  refine (sem_true (law13_sem ps l m u n hps hl hm hu) (vs := [v0, v1, sv m, sv u, .int .i64 n]) rfl fun i d v hd hv => ?_).mono fun e W' ⟨he, hg⟩ => ?_
  · match i, hd, hv with
    | 0, hd, hv => cases hd; cases hv; exact f0
    | 1, hd, hv => cases hd; cases hv; exact f1
    | 2, hd, hv => cases hd; cases hv; exact .str m
    | 3, hd, hv => cases hd; cases hv; exact .str u
    | 4, hd, hv => cases hd; cases hv; exact .int _ n
    | i + 5, hd, _ => simp at hd
  subst he
  exact ⟨_, rfl, lawpost hW' rfl hg⟩

theorem laid_met (os : Os) : laidMet Tryd.prog Rows.partnerNeverIsNeverRow.laid ((laidWorld os).forCall (fun _ _ => 0) ⟨#[], #[.slice none 0 0, .slice none 0 0, sv [], sv [], .int .i64 0], []⟩).memory :=
  laidMet_of_run' 8 (by kernel_rfl) (by kernel_rfl)
theorem reads (os : Os) {H : Type} (enc : TypeId × Value → H) : ∃ ds places, DataW.whole enc Tryd.prog ((laidWorld os).forCall (fun _ _ => 0) ⟨#[], #[.slice none 0 0, .slice none 0 0, sv [], sv [], .int .i64 0], []⟩).memory Tryd.f6.params.toList Rows.partnerNeverIsNeverSpec.vars false #[.slice none 0 0, .slice none 0 0, sv [], sv [], .int .i64 0].toList 8 = some (ds, [], places) :=
  whole_some (by kernel_rfl)
theorem wit_v (os : Os) : ((laidWorld os).forCall (fun _ _ => 0) ⟨#[], #[.slice none 0 0, .slice none 0 0, sv [], sv [], .int .i64 0], []⟩).variablesB Tryd.checked.prog = true := by kernel_rfl
theorem wit_r (os : Os) : (((laidWorld os).forCall (fun _ _ => 0) ⟨#[], #[.slice none 0 0, .slice none 0 0, sv [], sv [], .int .i64 0], []⟩).heap.toList.drop Tryd.checked.prog.globals.size).take ((begin Tryd.checked.prog (fun _ _ => 0) default).world.heap.size - Tryd.checked.prog.globals.size) =
      (begin Tryd.checked.prog (fun _ _ => 0) default).world.heap.toList.drop Tryd.checked.prog.globals.size := by kernel_rfl
theorem wit_ok (os : Os) : Input.okWideB Tryd.checked.prog ((laidWorld os).forCall (fun _ _ => 0) ⟨#[], #[.slice none 0 0, .slice none 0 0, sv [], sv [], .int .i64 0], []⟩) 6 ⟨#[], #[.slice none 0 0, .slice none 0 0, sv [], sv [], .int .i64 0], []⟩ = true := by kernel_rfl
theorem wit_sz (os : Os) {H : Type} (enc : TypeId × Value → H) : (OpenSpec.ofChange Rows.partnerNeverIsNeverSpec).bare.sizedB enc Tryd.prog Tryd.f6 false ((laidWorld os).forCall (fun _ _ => 0) ⟨#[], #[.slice none 0 0, .slice none 0 0, sv [], sv [], .int .i64 0], []⟩).memory #[.slice none 0 0, .slice none 0 0, sv [], sv [], .int .i64 0] 8 = true := by kernel_rfl
theorem no_init : Tryd.checked.prog.inits.idxOf? 6 = none := by kernel_rfl
theorem wit_row (os : Os) (H : Type) (enc : TypeId × Value → H) : (OpenSpec.ofChange Rows.partnerNeverIsNeverSpec).preRow enc Tryd.prog Tryd.f6 Rows.partnerNeverIsNeverRow.domain false Rows.partnerNeverIsNeverRow.laid ((laidWorld os).forCall (fun _ _ => 0) ⟨#[], #[.slice none 0 0, .slice none 0 0, sv [], sv [], .int .i64 0], []⟩).memory #[.slice none 0 0, .slice none 0 0, sv [], sv [], .int .i64 0] := by
  obtain ⟨ds, places, hx⟩ := reads os enc
  exact OpenSpec.preRow_of_cond 8 hx rfl (fun k hk => by cases hk) (wit_sz os enc) (laid_met os)
theorem wit (os : Os) (H : Type) (enc : TypeId × Value → H) : ∃ (w : World) (tape : Tape) (i : Input), w.os = os ∧ (w.forCall tape i).Shaped Tryd.checked.prog ∧ i.vars = [] ∧ Input.okWide Tryd.checked.prog (w.forCall tape i) .any w.heap.size 6 i ∧
      (OpenSpec.ofChange Rows.partnerNeverIsNeverSpec).preRow enc Tryd.checked.prog Tryd.f6 Rows.partnerNeverIsNeverRow.domain false Rows.partnerNeverIsNeverRow.laid (w.forCall tape i).memory i.args ∧ ({} : Assume).holds Tryd.checked.prog (lone (Frame.enter Tryd.checked.prog 6 i.args .normal) [] (w.forCall tape i)) :=
  witness_row_at (enc := enc) (C := Tryd.checked) false (laidWorld os) #[.slice none 0 0, .slice none 0 0, sv [], sv [], .int .i64 0] rfl (wit_v os) (wit_r os) (wit_ok os) (wit_row os H enc)
set_option maxRecDepth 100000 in
theorem lifted (os : Os) (started : os.Started) (H : Type) (enc : TypeId × Value → H) (F : Stop.Interp) :
    ReturnsInHanded {} Tryd.checked os 6 .any ((OpenSpec.ofChange Rows.partnerNeverIsNeverSpec).preRow enc Tryd.prog Tryd.f6 Rows.partnerNeverIsNeverRow.domain false Rows.partnerNeverIsNeverRow.laid) (((OpenSpec.ofChange Rows.partnerNeverIsNeverSpec).at F).post enc Tryd.prog Tryd.f6 false true false false) :=
  returnsInHanded_of_row (C := Tryd.checked) (s := OpenSpec.ofChange Rows.partnerNeverIsNeverSpec) own started no_init Tryd.func6 (wit os H enc)
    fun W base args ds gs before hval hW _ _ _ _ _ _ => contract H enc W base args ds gs before hval hW
theorem lm_wf : (Rows.partnerNeverIsNeverRow.wf (OpenSpec.ofChange (OpenSpec.ofChange Rows.partnerNeverIsNeverSpec).bare)) = true := by kernel_rfl
theorem lm_par : (Tryd.f6.params.all (Tryd.pinned.checked.prog.readableRec ·)) = true := by kernel_rfl
theorem lm_tie : (namedTie Tryd.pinned.checked.prog Rows.partnerNeverIsNeverRow.named (OpenSpec.ofChange Rows.partnerNeverIsNeverSpec).bare.vars) = true := by kernel_rfl
theorem lm_inPlace : (Rows.partnerNeverIsNeverRow.inPlace == Tryd.pinned.checked.prog.inPlace 6) = true := by kernel_rfl
theorem lm_unf : (Rows.partnerNeverIsNeverRow.unfollowed == Tryd.pinned.checked.prog.unfollowed 6) = true := by kernel_rfl
theorem lm_rec : (Rows.partnerNeverIsNeverRow.recurses == Tryd.pinned.checked.prog.recurses 6) = true := by kernel_rfl
theorem lm_named : (Rows.partnerNeverIsNeverRow.named == Tryd.pinned.checked.prog.varsNamed 6) = true := by kernel_rfl
theorem lm_maps : (Rows.partnerNeverIsNeverRow.maps == (Tryd.f6.params.toList ++ (OpenSpec.ofChange Rows.partnerNeverIsNeverSpec).bare.plain.varTypes Tryd.pinned.checked.prog).any (Tryd.pinned.checked.prog.mapsRec ·)) = true := by kernel_rfl
theorem lm_ifs : (Rows.partnerNeverIsNeverRow.ifaces == (Tryd.f6.params.toList ++ (OpenSpec.ofChange Rows.partnerNeverIsNeverSpec).bare.plain.varTypes Tryd.pinned.checked.prog).any (Tryd.pinned.checked.prog.ifacesRec ·)) = true := by kernel_rfl
theorem lm_mo : (Rows.partnerNeverIsNeverRow.mapsOut == Tryd.pinned.checked.prog.mapsAmong Tryd.f6.resultTypes.toList) = true := by kernel_rfl
theorem lm_loops : (Rows.partnerNeverIsNeverRow.loops == (Tryd.f6.params.toList ++ (OpenSpec.ofChange Rows.partnerNeverIsNeverSpec).bare.plain.varTypes Tryd.pinned.checked.prog).any (Tryd.pinned.checked.prog.loopsFrom ·)) = true := by kernel_rfl
theorem lm_wk : (Rows.partnerNeverIsNeverRow.wideKeys == (Tryd.f6.params.toList ++ (OpenSpec.ofChange Rows.partnerNeverIsNeverSpec).bare.plain.varTypes Tryd.pinned.checked.prog ++ Tryd.f6.resultTypes.toList).any (Tryd.pinned.checked.prog.wideKeysFrom ·)) = true := by kernel_rfl
theorem lm_vars : ((OpenSpec.ofChange Rows.partnerNeverIsNeverSpec).bare.vars.all (Tryd.pinned.checked.prog.varReadable ·)) = true := by kernel_rfl
theorem lm_res : (Tryd.f6.resultTypes.all (fun t => Tryd.pinned.checked.prog.readableRec t && decide (t < Tryd.pinned.checked.prog.types.size))) = true := by kernel_rfl
theorem lm_io : (Rows.partnerNeverIsNeverRow.ifacesOut == Tryd.f6.resultTypes.toList.any (Tryd.pinned.checked.prog.ifacesRec ·)) = true := by kernel_rfl
theorem lm_lo : (Rows.partnerNeverIsNeverRow.loopsOut == Tryd.f6.resultTypes.toList.any (Tryd.pinned.checked.prog.loopsFrom ·)) = true := by kernel_rfl
theorem lm_kinds : (Rows.partnerNeverIsNeverRow.kinds == (if Rows.partnerNeverIsNeverRow.domain.isEmpty then [] else Tryd.f6.params.toList.map fun t => match Tryd.pinned.checked.prog.underlying t with | some (.int k) => some k | _ => none)) = true := by kernel_rfl
theorem lm_make : (Tryd.pinned.checked.prog.make == some Rows.partnerNeverIsNeverRow.make) = true := by kernel_rfl
theorem lm_veiled : (Rows.partnerNeverIsNeverRow.veiled == (Tryd.f6.params.toList ++ (OpenSpec.ofChange Rows.partnerNeverIsNeverSpec).bare.plain.varTypes Tryd.pinned.checked.prog ++ Tryd.f6.resultTypes.toList).any (Tryd.pinned.checked.prog.veiledRec ·)) = true := by kernel_rfl
theorem lm_vf : (Rows.partnerNeverIsNeverRow.veiledFits Tryd.pinned.checked.prog Tryd.f6.params.toList (Tryd.f6.params.toList ++ (OpenSpec.ofChange Rows.partnerNeverIsNeverSpec).bare.plain.varTypes Tryd.pinned.checked.prog ++ Tryd.f6.resultTypes.toList)) = true := by kernel_rfl
set_option maxRecDepth 100000 in
theorem closed : joinedFacts Tryd.pinned.checked.prog 6 Tryd.f6 (OpenSpec.ofChange Rows.partnerNeverIsNeverSpec).bare Rows.partnerNeverIsNeverRow = true :=
  joined_mk lm_wf laidOut pf_maps lm_par lm_tie rfl pf_stops rfl pf_knobs lm_inPlace lm_unf lm_rec lm_named lm_maps lm_ifs lm_mo lm_loops lm_wk lm_vars lm_res lm_io lm_lo (pf_pk rfl) rfl pf_heard pf_enter (pf_lift rfl) lm_make lm_kinds rfl lm_veiled lm_vf
theorem named_f : Tryd.pinned.checked.prog.funcNamed Rows.partnerNeverIsNeverRow.func = some 6 := by kernel_rfl
theorem said : Rows.PartnerNeverIsNeverSaid :=
  OpenClaim.holds_of_cond 6 Tryd.f6 rfl rfl rfl rfl rfl rfl rfl ⟨rfl, rfl, rfl, rfl, rfl⟩ rfl rfl rfl rfl rfl named_f Tryd.func6 closed
    (of_decide_eq_true (by kernel_rfl)) (by unfold Func.isWrapper; first | (rw [if_pos (by decide +kernel)]; kernel_rfl) | (rw [if_neg (by decide +kernel)]; exact ⟨rfl, rfl⟩))
    (fun os started H enc _ F => by rw [OpenClaim.pre_eq_preRow]; exact lifted os started H enc F)

end Go.Proofs.YthbhjladfniboaaDoor.nevers
