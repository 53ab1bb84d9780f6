/- PartnerIntakeMatchesSpec: whatever series, hold and arrivals: the law returns true and turns nothing that was there. -/
import Derived.Test.YtalejlbiccdfjaaDoorZ19
import Derived.Test.YtalejlbiccdfjaaDoorZ21
namespace Go.Proofs.YtalejlbiccdfjaaDoor.intake
set_option linter.unusedSimpArgs false
set_option linter.unusedVariables false
open Go.ChangeShapes Go.WideShapes Go.ChangeAt Go.RowKit Go.Deep
set_option maxRecDepth 100000 in
theorem globals {W:World} (hS:W.ShapedOpen Tryd.prog):∀ (g:Nat) (φ:Obj→Prop),GB g=some φ→∃ o,W.heap[g]?=some o∧φ o:=by
 intro g φ hg
 unfold GB at hg
 split at hg
 ·cases hg
  exact max_there hS
 ·cases hg
theorem lawpost {H:Type} {enc:TypeId × Value→H} {W W':World} {args:Array Value} {ds gs:List (DataW H)} {before:List MemPlace} (hW:DataW.Whole enc Tryd.prog Tryd.f4.params.toList Rows.partnerIntakeMatchesSpecSpec.vars false W args.toList ds gs before) (hs:Rows.partnerIntakeMatchesSpecSpec.fn H (ds++gs)={ results := [.lit (.bool true)],args:=ds }) (hg:Ext W W'):
  Rows.partnerIntakeMatchesSpecSpec.post enc Tryd.prog Tryd.f4 false true false false W args (.bool true) W':=
 law_post laidOut rfl (by kernel_rfl) Tryd.underlying4 (by
  rw [Tryd.params4]
  intro t ht
  have ht':t=23∨t=3∨t=24:=by simpa using ht
  rcases ht' with rfl|rfl|rfl
  ·exact ⟨by kernel_rfl,of_decide_eq_true (by kernel_rfl)⟩
  ·exact ⟨by kernel_rfl,of_decide_eq_true (by kernel_rfl)⟩
  ·exact ⟨by kernel_rfl,of_decide_eq_true (by kernel_rfl)⟩) hW hs hg.below
set_option maxRecDepth 100000 in
theorem contract (H:Type) (enc:TypeId × Value→H) (W:World) (base:Nat) (args:Array Value) (ds gs:List (DataW H)) (before:List MemPlace)
  (hval:∀ (j:Nat) t v,Tryd.f4.params[j]?=some t→args[j]?=some v→Value.okWide Tryd.prog W .any base t v)
  (hW:DataW.Whole enc Tryd.prog Tryd.f4.params.toList Rows.partnerIntakeMatchesSpecSpec.vars false W args.toList ds gs before) (hL:laidMetH Tryd.prog Rows.partnerIntakeMatchesSpecRow.laid W) (hS:W.ShapedOpen Tryd.prog):
  Calls Tryd.prog 4 args W fun e W'=>∃ v,e=.returned v∧Rows.partnerIntakeMatchesSpecSpec.post enc Tryd.prog Tryd.f4 false true false false W args v W':=by
 have hW':=hW
 obtain ⟨p,q,hA0,hV,rfl,hfz,hnd⟩:=hW
 have hA:DataW.TrodAll enc Tryd.prog W 0 (fun _=>true) true Tryd.f4.params.toList args.toList ds p:=hA0
 rw [Tryd.params4] at hA hval
 obtain ⟨v0,vs0,d0,ds0,p0,q0,hargs,rfl,rfl,h0,r0⟩:=trodAll_cons hA
 obtain ⟨v1,vs1,d1,ds1,p1,q1,rfl,rfl,rfl,h1,r1⟩:=trodAll_cons r0
 obtain ⟨v2,vs2,d2,ds2,p2,q2,rfl,rfl,rfl,h2,r2⟩:=trodAll_cons r1
 obtain ⟨rfl,rfl,rfl⟩:=trodAll_nil r2
 obtain rfl:args = #[v0,v1,v2]:=by cases args;simp_all
 obtain ⟨rfl,rfl⟩:=trodVars_none hV
 obtain ⟨x0,rfl⟩:=open_ser (hval 0 _ v0 rfl rfl) h0
 obtain ⟨x1,rfl⟩:=open_int (hval 1 _ v1 rfl rfl)
 obtain ⟨x2,g2,k2,f2⟩:=open_arrs (hval 2 _ v2 rfl rfl) h2
 refine (sem_trueG (law7_sem x0 x1 x2 g2 k2) (globals hS) (vs := [x0.v,.int .i64 x1,v2]) rfl fun i d v hd hv => ?_).mono fun e W' ⟨he,hg⟩ => ?_
 ·match i,hd,hv with
  |0,hd,hv=>cases hd;cases hv;exact fz_ser x0
  |1,hd,hv=>cases hd;cases hv;exact .int _ _
  |2,hd,hv=>cases hd;cases hv;exact f2
  |i+3,hd,_=>simp at hd
 subst he
 exact ⟨_,rfl,lawpost hW' rfl hg⟩
theorem laid_met (os:Os):laidMet Tryd.prog Rows.partnerIntakeMatchesSpecRow.laid ((laidWorld os).forCall (fun _ _=>0) ⟨#[],#[zero.v,.int .i64 0,.slice none 0 0],[]⟩).memory:=
 laidMet_of_run' 8 (by kernel_rfl) (by kernel_rfl)
theorem reads (os:Os) {H:Type} (enc:TypeId × Value→H):∃ ds places,DataW.whole enc Tryd.prog ((laidWorld os).forCall (fun _ _=>0) ⟨#[],#[zero.v,.int .i64 0,.slice none 0 0],[]⟩).memory Tryd.f4.params.toList Rows.partnerIntakeMatchesSpecSpec.vars false #[zero.v,.int .i64 0,.slice none 0 0].toList 8=some (ds,[],places):=
 whole_some (by kernel_rfl)
theorem wit_v (os:Os):((laidWorld os).forCall (fun _ _=>0) ⟨#[],#[zero.v,.int .i64 0,.slice none 0 0],[]⟩).variablesB Tryd.checked.prog=true:=by kernel_rfl
theorem wit_r (os : Os) : (((laidWorld os).forCall (fun _ _ => 0) ⟨#[], #[zero.v, .int .i64 0, .slice none 0 0], []⟩).heap.toList.drop Tryd.checked.prog.globals.size).take ((begin Tryd.checked.prog (fun _ _ => 0) default).world.heap.size - Tryd.checked.prog.globals.size) =
      (begin Tryd.checked.prog (fun _ _ => 0) default).world.heap.toList.drop Tryd.checked.prog.globals.size := by kernel_rfl
theorem wit_ok (os:Os):Input.okWideB Tryd.checked.prog ((laidWorld os).forCall (fun _ _=>0) ⟨#[],#[zero.v,.int .i64 0,.slice none 0 0],[]⟩) 4 ⟨#[],#[zero.v,.int .i64 0,.slice none 0 0],[]⟩=true:=by kernel_rfl
theorem wit_sz (os:Os) {H:Type} (enc:TypeId × Value→H):(OpenSpec.ofChange Rows.partnerIntakeMatchesSpecSpec).bare.sizedB enc Tryd.prog Tryd.f4 false ((laidWorld os).forCall (fun _ _=>0) ⟨#[],#[zero.v,.int .i64 0,.slice none 0 0],[]⟩).memory #[zero.v,.int .i64 0,.slice none 0 0] 8=true:=by kernel_rfl
theorem no_init:Tryd.checked.prog.inits.idxOf? 4=none:=by kernel_rfl
theorem wit_row (os:Os) (H:Type) (enc:TypeId × Value→H):(OpenSpec.ofChange Rows.partnerIntakeMatchesSpecSpec).preRow enc Tryd.prog Tryd.f4 Rows.partnerIntakeMatchesSpecRow.domain false Rows.partnerIntakeMatchesSpecRow.laid ((laidWorld os).forCall (fun _ _=>0) ⟨#[],#[zero.v,.int .i64 0,.slice none 0 0],[]⟩).memory #[zero.v,.int .i64 0,.slice none 0 0]:=by
 obtain ⟨ds,places,hx⟩:=reads os enc
 exact OpenSpec.preRow_of_cond 8 hx rfl (fun k hk=>by cases hk) (wit_sz os enc) (laid_met os)
theorem wit (os : Os) (H : Type) (enc : TypeId × Value → H) : ∃ (w : World) (tape : Tape) (i : Input), w.os = os ∧ (w.forCall tape i).Shaped Tryd.checked.prog ∧ i.vars = [] ∧ Input.okWide Tryd.checked.prog (w.forCall tape i) .any w.heap.size 4 i ∧
      (OpenSpec.ofChange Rows.partnerIntakeMatchesSpecSpec).preRow enc Tryd.checked.prog Tryd.f4 Rows.partnerIntakeMatchesSpecRow.domain false Rows.partnerIntakeMatchesSpecRow.laid (w.forCall tape i).memory i.args ∧ ({} : Assume).holds Tryd.checked.prog (lone (Frame.enter Tryd.checked.prog 4 i.args .normal) [] (w.forCall tape i)) :=
  witness_row_at (enc := enc) (C := Tryd.checked) false (laidWorld os) #[zero.v, .int .i64 0, .slice none 0 0] rfl (wit_v os) (wit_r os) (wit_ok os) (wit_row os H enc)
set_option maxRecDepth 100000 in
theorem lifted (os:Os) (started:os.Started) (H:Type) (enc:TypeId × Value→H) (F:Stop.Interp):
  ReturnsInHanded {} Tryd.checked os 4 .any ((OpenSpec.ofChange Rows.partnerIntakeMatchesSpecSpec).preRow enc Tryd.prog Tryd.f4 Rows.partnerIntakeMatchesSpecRow.domain false Rows.partnerIntakeMatchesSpecRow.laid) (((OpenSpec.ofChange Rows.partnerIntakeMatchesSpecSpec).at F).post enc Tryd.prog Tryd.f4 false true false false):=
 returnsInHanded_of_row (C:=Tryd.checked) (s:=OpenSpec.ofChange Rows.partnerIntakeMatchesSpecSpec) own started no_init Tryd.func4 (wit os H enc)
  fun W base args ds gs before hval hW _ _ _ hL hS _=>contract H enc W base args ds gs before hval hW hL hS
theorem lm_wf:(Rows.partnerIntakeMatchesSpecRow.wf (OpenSpec.ofChange (OpenSpec.ofChange Rows.partnerIntakeMatchesSpecSpec).bare))=true:=by kernel_rfl
theorem lm_par:(Tryd.f4.params.all (Tryd.pinned.checked.prog.readableRec ·))=true:=by kernel_rfl
theorem lm_tie:(namedTie Tryd.pinned.checked.prog Rows.partnerIntakeMatchesSpecRow.named (OpenSpec.ofChange Rows.partnerIntakeMatchesSpecSpec).bare.vars)=true:=by kernel_rfl
theorem lm_inPlace:(Rows.partnerIntakeMatchesSpecRow.inPlace == Tryd.pinned.checked.prog.inPlace 4)=true:=by kernel_rfl
theorem lm_unf:(Rows.partnerIntakeMatchesSpecRow.unfollowed == Tryd.pinned.checked.prog.unfollowed 4)=true:=by kernel_rfl
theorem lm_rec:(Rows.partnerIntakeMatchesSpecRow.recurses == Tryd.pinned.checked.prog.recurses 4)=true:=by kernel_rfl
theorem lm_named:(Rows.partnerIntakeMatchesSpecRow.named == Tryd.pinned.checked.prog.varsNamed 4)=true:=by kernel_rfl
theorem lm_maps:(Rows.partnerIntakeMatchesSpecRow.maps == (Tryd.f4.params.toList++(OpenSpec.ofChange Rows.partnerIntakeMatchesSpecSpec).bare.plain.varTypes Tryd.pinned.checked.prog).any (Tryd.pinned.checked.prog.mapsRec ·))=true:=by kernel_rfl
theorem lm_ifs:(Rows.partnerIntakeMatchesSpecRow.ifaces == (Tryd.f4.params.toList++(OpenSpec.ofChange Rows.partnerIntakeMatchesSpecSpec).bare.plain.varTypes Tryd.pinned.checked.prog).any (Tryd.pinned.checked.prog.ifacesRec ·))=true:=by kernel_rfl
theorem lm_mo:(Rows.partnerIntakeMatchesSpecRow.mapsOut == Tryd.pinned.checked.prog.mapsAmong Tryd.f4.resultTypes.toList)=true:=by kernel_rfl
theorem lm_loops:(Rows.partnerIntakeMatchesSpecRow.loops == (Tryd.f4.params.toList++(OpenSpec.ofChange Rows.partnerIntakeMatchesSpecSpec).bare.plain.varTypes Tryd.pinned.checked.prog).any (Tryd.pinned.checked.prog.loopsFrom ·))=true:=by kernel_rfl
theorem lm_wk:(Rows.partnerIntakeMatchesSpecRow.wideKeys == (Tryd.f4.params.toList++(OpenSpec.ofChange Rows.partnerIntakeMatchesSpecSpec).bare.plain.varTypes Tryd.pinned.checked.prog++Tryd.f4.resultTypes.toList).any (Tryd.pinned.checked.prog.wideKeysFrom ·))=true:=by kernel_rfl
theorem lm_vars:((OpenSpec.ofChange Rows.partnerIntakeMatchesSpecSpec).bare.vars.all (Tryd.pinned.checked.prog.varReadable ·))=true:=by kernel_rfl
theorem lm_res:(Tryd.f4.resultTypes.all (fun t=>Tryd.pinned.checked.prog.readableRec t && decide (t < Tryd.pinned.checked.prog.types.size)))=true:=by kernel_rfl
theorem lm_io:(Rows.partnerIntakeMatchesSpecRow.ifacesOut == Tryd.f4.resultTypes.toList.any (Tryd.pinned.checked.prog.ifacesRec ·))=true:=by kernel_rfl
theorem lm_lo:(Rows.partnerIntakeMatchesSpecRow.loopsOut == Tryd.f4.resultTypes.toList.any (Tryd.pinned.checked.prog.loopsFrom ·))=true:=by kernel_rfl
theorem lm_pk:(Rows.partnerIntakeMatchesSpecRow.plainKeys == Tryd.pinned.checked.prog.plainKeys)=true:=by kernel_rfl
theorem lm_lift:(Rows.partnerIntakeMatchesSpecRow.lifted == Tryd.pinned.checked.prog.liftsFinal)=true:=by kernel_rfl
theorem lm_kinds:(Rows.partnerIntakeMatchesSpecRow.kinds == (if Rows.partnerIntakeMatchesSpecRow.domain.isEmpty then [] else Tryd.f4.params.toList.map fun t=>match Tryd.pinned.checked.prog.underlying t with|some (.int k)=>some k|_=>none))=true:=by kernel_rfl
theorem lm_make:(Tryd.pinned.checked.prog.make == some Rows.partnerIntakeMatchesSpecRow.make)=true:=by kernel_rfl
theorem lm_veiled:(Rows.partnerIntakeMatchesSpecRow.veiled == (Tryd.f4.params.toList++(OpenSpec.ofChange Rows.partnerIntakeMatchesSpecSpec).bare.plain.varTypes Tryd.pinned.checked.prog++Tryd.f4.resultTypes.toList).any (Tryd.pinned.checked.prog.veiledRec ·))=true:=by kernel_rfl
theorem lm_vf:(Rows.partnerIntakeMatchesSpecRow.veiledFits Tryd.pinned.checked.prog Tryd.f4.params.toList (Tryd.f4.params.toList++(OpenSpec.ofChange Rows.partnerIntakeMatchesSpecSpec).bare.plain.varTypes Tryd.pinned.checked.prog++Tryd.f4.resultTypes.toList))=true:=by kernel_rfl
set_option maxRecDepth 100000 in
theorem closed:joinedFacts Tryd.pinned.checked.prog 4 Tryd.f4 (OpenSpec.ofChange Rows.partnerIntakeMatchesSpecSpec).bare Rows.partnerIntakeMatchesSpecRow=true:=
 joined_mk lm_wf laidOut pf_maps lm_par lm_tie rfl pf_stops rfl pf_knobs lm_inPlace lm_unf lm_rec lm_named lm_maps lm_ifs lm_mo lm_loops lm_wk lm_vars lm_res lm_io lm_lo lm_pk rfl pf_heard pf_enter lm_lift lm_make lm_kinds rfl lm_veiled lm_vf
theorem named_f:Tryd.pinned.checked.prog.funcNamed Rows.partnerIntakeMatchesSpecRow.func=some 4:=by kernel_rfl
theorem said:Rows.PartnerIntakeMatchesSpecSaid:=
 OpenClaim.holds_of_cond 4 Tryd.f4 rfl rfl rfl rfl rfl rfl rfl ⟨rfl,rfl,rfl,rfl,rfl⟩ rfl rfl rfl rfl rfl named_f Tryd.func4 closed
  (of_decide_eq_true (by kernel_rfl)) (by unfold Func.isWrapper;first|(rw [if_pos (by decide +kernel)];kernel_rfl)|(rw [if_neg (by decide +kernel)];exact ⟨rfl,rfl⟩))
  (fun os started H enc _ F=>by rw [OpenClaim.pre_eq_preRow];exact lifted os started H enc F)
end Go.Proofs.YtalejlbiccdfjaaDoor.intake
