/- PartnerGapsAreMissing: for every series and every slice of numbers the law returns true and turns nothing that was there. -/
import Derived.Test.YtdopillligfdiaaG4
import Derived.Test.YtdopillligfdiaaLiftQ
namespace Go.Proofs.Ytdopillligfdiaa.gaps
set_option linter.unusedSimpArgs false
set_option linter.unusedVariables false
open Go.ChangeShapes Go.WideShapes Go.ChangeAt Go.RowKit Go.Deep

theorem lawpost {H : Type} {enc : TypeId × Value → H} {W W' : World} {args : Array Value} {ds gs : List (DataW H)} {before : List MemPlace} (hW : DataW.Whole enc Try.prog Try.f3.params.toList Rows.partnerGapsAreMissingSpec.vars false W args.toList ds gs before) (hs : Rows.partnerGapsAreMissingSpec.fn H (ds ++ gs) = { results := [.lit (.bool true)], args := ds }) (hg : Ext W W') :
    Rows.partnerGapsAreMissingSpec.post enc Try.prog Try.f3 false true false false W args (.bool true) W' :=
  law_post laidOut rfl (by kernel_rfl) Try.underlying4 (by
    rw [Try.params3]
    intro t ht
    have ht' : t = 23 ∨ t = 24 := by simpa using ht
    rcases ht' with rfl | rfl
    · exact ⟨by kernel_rfl, of_decide_eq_true (by kernel_rfl)⟩
    · exact ⟨by kernel_rfl, of_decide_eq_true (by kernel_rfl)⟩) hW hs hg.below

set_option maxRecDepth 100000 in
theorem contract (H : Type) (enc : TypeId × Value → H) (W : World) (base : Nat) (args : Array Value) (ds gs : List (DataW H)) (before : List MemPlace)
    (hval : ∀ (j : Nat) t v, Try.f3.params[j]? = some t → args[j]? = some v → Value.okWide Try.prog W .any base t v)
    (hW : DataW.Whole enc Try.prog Try.f3.params.toList Rows.partnerGapsAreMissingSpec.vars false W args.toList ds gs before) :
    Calls Try.prog 3 args W fun e W' => ∃ v, e = .returned v ∧ Rows.partnerGapsAreMissingSpec.post enc Try.prog Try.f3 false true false false W args v W' := by
  have hW' := hW
  obtain ⟨p, q, hA0, hV, rfl, hfz, hnd⟩ := hW
  have hA : DataW.TrodAll enc Try.prog W 0 (fun _ => true) true Try.f3.params.toList args.toList ds p := hA0
  rw [Try.params3] at hA hval
  obtain ⟨v0, vs0, d0, ds0, p0, q0, hargs, rfl, rfl, h0, r0⟩ := trodAll_cons hA
  obtain ⟨v1, vs1, d1, ds1, p1, q1, rfl, rfl, rfl, h1, r1⟩ := trodAll_cons r0
  obtain ⟨rfl, rfl, rfl⟩ := trodAll_nil r1
  obtain rfl : args = #[v0, v1] := by cases args; simp_all
  obtain ⟨rfl, rfl⟩ := trodVars_none hV
  obtain ⟨s, rfl⟩ := open_ser (hval 0 _ v0 rfl rfl) h0
  obtain ⟨l, hl⟩ := open_intsl' (hval 1 _ v1 rfl rfl) h1
  refine (sem_true (law4_sem s l) (vs := [s.v, v1]) rfl fun i d v hd hv => ?_).mono fun e W' ⟨he, hg⟩ => ?_
  · match i, hd, hv with
    | 0, hd, hv => cases hd; cases hv; exact fz_ser s
    | 1, hd, hv => cases hd; cases hv; exact hl
    | i + 2, hd, _ => simp at hd
  subst he
  exact ⟨_, rfl, lawpost hW' rfl hg⟩

def zero : Ser := ⟨0, 0⟩
theorem laid_met (os : Os) : laidMet Try.prog Rows.partnerGapsAreMissingRow.laid ((laidWorld os).forCall (fun _ _ => 0) ⟨#[], #[zero.v, .slice none 0 0], []⟩).memory :=
  laidMet_of_run' 8 (by kernel_rfl) (by kernel_rfl)
theorem reads (os : Os) {H : Type} (enc : TypeId × Value → H) : ∃ ds places, DataW.whole enc Try.prog ((laidWorld os).forCall (fun _ _ => 0) ⟨#[], #[zero.v, .slice none 0 0], []⟩).memory Try.f3.params.toList Rows.partnerGapsAreMissingSpec.vars false #[zero.v, .slice none 0 0].toList 8 = some (ds, [], places) :=
  whole_some (by kernel_rfl)
theorem wit_v (os : Os) : ((laidWorld os).forCall (fun _ _ => 0) ⟨#[], #[zero.v, .slice none 0 0], []⟩).variablesB Try.checked.prog = true := by kernel_rfl
theorem wit_r (os : Os) : (((laidWorld os).forCall (fun _ _ => 0) ⟨#[], #[zero.v, .slice none 0 0], []⟩).heap.toList.drop Try.checked.prog.globals.size).take ((begin Try.checked.prog (fun _ _ => 0) default).world.heap.size - Try.checked.prog.globals.size) =
      (begin Try.checked.prog (fun _ _ => 0) default).world.heap.toList.drop Try.checked.prog.globals.size := by kernel_rfl
theorem wit_ok (os : Os) : Input.okWideB Try.checked.prog ((laidWorld os).forCall (fun _ _ => 0) ⟨#[], #[zero.v, .slice none 0 0], []⟩) 3 ⟨#[], #[zero.v, .slice none 0 0], []⟩ = true := by kernel_rfl
theorem wit_sz (os : Os) {H : Type} (enc : TypeId × Value → H) : (OpenSpec.ofChange Rows.partnerGapsAreMissingSpec).bare.sizedB enc Try.prog Try.f3 false ((laidWorld os).forCall (fun _ _ => 0) ⟨#[], #[zero.v, .slice none 0 0], []⟩).memory #[zero.v, .slice none 0 0] 8 = true := by kernel_rfl
theorem no_init : Try.checked.prog.inits.idxOf? 3 = none := by kernel_rfl
theorem wit_row (os : Os) (H : Type) (enc : TypeId × Value → H) : (OpenSpec.ofChange Rows.partnerGapsAreMissingSpec).preRow enc Try.prog Try.f3 Rows.partnerGapsAreMissingRow.domain false Rows.partnerGapsAreMissingRow.laid ((laidWorld os).forCall (fun _ _ => 0) ⟨#[], #[zero.v, .slice none 0 0], []⟩).memory #[zero.v, .slice none 0 0] := by
  obtain ⟨ds, places, hx⟩ := reads os enc
  exact OpenSpec.preRow_of_cond 8 hx rfl (fun k hk => by cases hk) (wit_sz os enc) (laid_met os)
theorem wit (os : Os) (H : Type) (enc : TypeId × Value → H) : ∃ (w : World) (tape : Tape) (i : Input), w.os = os ∧ (w.forCall tape i).Shaped Try.checked.prog ∧ i.vars = [] ∧ Input.okWide Try.checked.prog (w.forCall tape i) .any w.heap.size 3 i ∧
      (OpenSpec.ofChange Rows.partnerGapsAreMissingSpec).preRow enc Try.checked.prog Try.f3 Rows.partnerGapsAreMissingRow.domain false Rows.partnerGapsAreMissingRow.laid (w.forCall tape i).memory i.args ∧ ({} : Assume).holds Try.checked.prog (lone (Frame.enter Try.checked.prog 3 i.args .normal) [] (w.forCall tape i)) :=
  witness_row_at (enc := enc) (C := Try.checked) false (laidWorld os) #[zero.v, .slice none 0 0] rfl (wit_v os) (wit_r os) (wit_ok os) (wit_row os H enc)
set_option maxRecDepth 100000 in
theorem lifted (os : Os) (started : os.Started) (H : Type) (enc : TypeId × Value → H) (F : Stop.Interp) :
    ReturnsInHanded {} Try.checked os 3 .any ((OpenSpec.ofChange Rows.partnerGapsAreMissingSpec).preRow enc Try.prog Try.f3 Rows.partnerGapsAreMissingRow.domain false Rows.partnerGapsAreMissingRow.laid) (((OpenSpec.ofChange Rows.partnerGapsAreMissingSpec).at F).post enc Try.prog Try.f3 false true false false) :=
  returnsInHanded_of_row (C := Try.checked) (s := OpenSpec.ofChange Rows.partnerGapsAreMissingSpec) own started no_init Try.func3 (wit os H enc)
    fun W base args ds gs before hval hW _ _ _ _ _ _ => contract H enc W base args ds gs before hval hW
theorem lm_wf : (Rows.partnerGapsAreMissingRow.wf (OpenSpec.ofChange (OpenSpec.ofChange Rows.partnerGapsAreMissingSpec).bare)) = true := by kernel_rfl
theorem lm_par : (Try.f3.params.all (Try.pinned.checked.prog.readableRec ·)) = true := by kernel_rfl
theorem lm_tie : (namedTie Try.pinned.checked.prog Rows.partnerGapsAreMissingRow.named (OpenSpec.ofChange Rows.partnerGapsAreMissingSpec).bare.vars) = true := by kernel_rfl
theorem lm_inPlace : (Rows.partnerGapsAreMissingRow.inPlace == Try.pinned.checked.prog.inPlace 3) = true := by kernel_rfl
theorem lm_unf : (Rows.partnerGapsAreMissingRow.unfollowed == Try.pinned.checked.prog.unfollowed 3) = true := by kernel_rfl
theorem lm_rec : (Rows.partnerGapsAreMissingRow.recurses == Try.pinned.checked.prog.recurses 3) = true := by kernel_rfl
theorem lm_named : (Rows.partnerGapsAreMissingRow.named == Try.pinned.checked.prog.varsNamed 3) = true := by kernel_rfl
theorem lm_maps : (Rows.partnerGapsAreMissingRow.maps == (Try.f3.params.toList ++ (OpenSpec.ofChange Rows.partnerGapsAreMissingSpec).bare.plain.varTypes Try.pinned.checked.prog).any (Try.pinned.checked.prog.mapsRec ·)) = true := by kernel_rfl
theorem lm_ifs : (Rows.partnerGapsAreMissingRow.ifaces == (Try.f3.params.toList ++ (OpenSpec.ofChange Rows.partnerGapsAreMissingSpec).bare.plain.varTypes Try.pinned.checked.prog).any (Try.pinned.checked.prog.ifacesRec ·)) = true := by kernel_rfl
theorem lm_mo : (Rows.partnerGapsAreMissingRow.mapsOut == Try.pinned.checked.prog.mapsAmong Try.f3.resultTypes.toList) = true := by kernel_rfl
theorem lm_loops : (Rows.partnerGapsAreMissingRow.loops == (Try.f3.params.toList ++ (OpenSpec.ofChange Rows.partnerGapsAreMissingSpec).bare.plain.varTypes Try.pinned.checked.prog).any (Try.pinned.checked.prog.loopsFrom ·)) = true := by kernel_rfl
theorem lm_wk : (Rows.partnerGapsAreMissingRow.wideKeys == (Try.f3.params.toList ++ (OpenSpec.ofChange Rows.partnerGapsAreMissingSpec).bare.plain.varTypes Try.pinned.checked.prog ++ Try.f3.resultTypes.toList).any (Try.pinned.checked.prog.wideKeysFrom ·)) = true := by kernel_rfl
theorem lm_vars : ((OpenSpec.ofChange Rows.partnerGapsAreMissingSpec).bare.vars.all (Try.pinned.checked.prog.varReadable ·)) = true := by kernel_rfl
theorem lm_res : (Try.f3.resultTypes.all (fun t => Try.pinned.checked.prog.readableRec t && decide (t < Try.pinned.checked.prog.types.size))) = true := by kernel_rfl
theorem lm_io : (Rows.partnerGapsAreMissingRow.ifacesOut == Try.f3.resultTypes.toList.any (Try.pinned.checked.prog.ifacesRec ·)) = true := by kernel_rfl
theorem lm_lo : (Rows.partnerGapsAreMissingRow.loopsOut == Try.f3.resultTypes.toList.any (Try.pinned.checked.prog.loopsFrom ·)) = true := by kernel_rfl
theorem lm_kinds : (Rows.partnerGapsAreMissingRow.kinds == (if Rows.partnerGapsAreMissingRow.domain.isEmpty then [] else Try.f3.params.toList.map fun t => match Try.pinned.checked.prog.underlying t with | some (.int k) => some k | _ => none)) = true := by kernel_rfl
theorem lm_make : (Try.pinned.checked.prog.make == some Rows.partnerGapsAreMissingRow.make) = true := by kernel_rfl
theorem lm_veiled : (Rows.partnerGapsAreMissingRow.veiled == (Try.f3.params.toList ++ (OpenSpec.ofChange Rows.partnerGapsAreMissingSpec).bare.plain.varTypes Try.pinned.checked.prog ++ Try.f3.resultTypes.toList).any (Try.pinned.checked.prog.veiledRec ·)) = true := by kernel_rfl
theorem lm_vf : (Rows.partnerGapsAreMissingRow.veiledFits Try.pinned.checked.prog Try.f3.params.toList (Try.f3.params.toList ++ (OpenSpec.ofChange Rows.partnerGapsAreMissingSpec).bare.plain.varTypes Try.pinned.checked.prog ++ Try.f3.resultTypes.toList)) = true := by kernel_rfl
set_option maxRecDepth 100000 in
theorem closed : joinedFacts Try.pinned.checked.prog 3 Try.f3 (OpenSpec.ofChange Rows.partnerGapsAreMissingSpec).bare Rows.partnerGapsAreMissingRow = true :=
  joined_mk lm_wf laidOut pf_maps lm_par lm_tie rfl pf_stops rfl pf_knobs lm_inPlace lm_unf lm_rec lm_named lm_maps lm_ifs lm_mo lm_loops lm_wk lm_vars lm_res lm_io lm_lo (pf_pk rfl) rfl pf_heard pf_enter (pf_lift rfl) lm_make lm_kinds rfl lm_veiled lm_vf
theorem named_f : Try.pinned.checked.prog.funcNamed Rows.partnerGapsAreMissingRow.func = some 3 := by kernel_rfl
theorem said : Rows.PartnerGapsAreMissingSaid :=
  OpenClaim.holds_of_cond 3 Try.f3 rfl rfl rfl rfl rfl rfl rfl ⟨rfl, rfl, rfl, rfl, rfl⟩ rfl rfl rfl rfl rfl named_f Try.func3 closed
    (of_decide_eq_true (by kernel_rfl)) (by unfold Func.isWrapper; first | (rw [if_pos (by decide +kernel)]; kernel_rfl) | (rw [if_neg (by decide +kernel)]; exact ⟨rfl, rfl⟩))
    (fun os started H enc _ F => by rw [OpenClaim.pre_eq_preRow]; exact lifted os started H enc F)

end Go.Proofs.Ytdopillligfdiaa.gaps
