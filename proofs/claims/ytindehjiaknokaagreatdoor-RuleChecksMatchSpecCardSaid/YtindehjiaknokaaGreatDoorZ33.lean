/- RuleChecksMatchSpec: for every condition, where the listed tables hold what they do, the law returns true and turns nothing that was there. -/
import Derived.Test.YtindehjiaknokaaGreatDoorZ27
import Derived.Test.YtindehjiaknokaaGreatDoorZ31
import Derived.Test.YtindehjiaknokaaGreatDoorZ32
namespace Go.Proofs.YtindehjiaknokaaGreatDoor.checks
set_option linter.unusedSimpArgs false
set_option linter.unusedVariables false
open Go.ChangeShapes Go.WideShapes Go.ChangeAt Go.RowKit Go.Deep
set_option maxRecDepth 100000 in
theorem globals {W:World} (hL:laidMetH Tryz.prog Rows.ruleChecksMatchSpecRow.laid W) (hS:W.ShapedOpen Tryz.prog):∀ (g:Nat) (φ:Obj→Prop),GB g=some φ→∃ o,W.heap[g]?=some o∧φ o:=by
 have hL':laidMet Tryz.prog Rows.ruleChecksMatchSpecRow.laid W:=hL
 intro g φ hg
 unfold GB at hg
 split at hg
 ·cases hg
  exact laid_tab (name:=Rows.ruleChecksMatchSpecRow.named.getD 5 default) (k:=.u64) (zs:=Lib.pow10Tab) hL' rfl (by kernel_rfl) (by kernel_rfl) Tryz.underlying164 Tryz.underlying134 (by kernel_rfl) (by kernel_rfl)
 ·cases hg
  exact laid_tab (name:=Rows.ruleChecksMatchSpecRow.named.getD 7 default) (k:=.u8) (zs:=bruijn) hL' rfl (by kernel_rfl) (by kernel_rfl) Tryz.underlying214 Tryz.underlying5 (by kernel_rfl) (by kernel_rfl)
 ·cases hg
  exact max_there hS
 ·cases hg
theorem lawpost {H:Type} {enc:TypeId × Value→H} {W W':World} {args:Array Value} {ds gs:List (DataW H)} {before:List MemPlace} (hW:DataW.Whole enc Tryz.prog Tryz.f3.params.toList Rows.ruleChecksMatchSpecSpec.vars false W args.toList ds gs before) (hs:Rows.ruleChecksMatchSpecSpec.fn H (ds++gs)={ results := [.lit (.bool true)],args:=ds }) (hg:Ext W W'):
  Rows.ruleChecksMatchSpecSpec.post enc Tryz.prog Tryz.f3 false true false false W args (.bool true) W':=
 law_post laidOut rfl (by kernel_rfl) Tryz.underlying4 (by
  rw [Tryz.params3]
  intro t ht
  have ht':t=25:=by simpa using ht
  rcases ht' with rfl
  ·exact ⟨by kernel_rfl,of_decide_eq_true (by kernel_rfl)⟩) hW hs hg.below
set_option maxRecDepth 100000 in
theorem contract (H:Type) (enc:TypeId × Value→H) (W:World) (base:Nat) (args:Array Value) (ds gs:List (DataW H)) (before:List MemPlace)
  (hval:∀ (j:Nat) t v,Tryz.f3.params[j]?=some t→args[j]?=some v→Value.okWide Tryz.prog W .any base t v)
  (hW:DataW.Whole enc Tryz.prog Tryz.f3.params.toList Rows.ruleChecksMatchSpecSpec.vars false W args.toList ds gs before) (hL:laidMetH Tryz.prog Rows.ruleChecksMatchSpecRow.laid W) (hS:W.ShapedOpen Tryz.prog):
  Calls Tryz.prog 3 args W fun e W'=>∃ v,e=.returned v∧Rows.ruleChecksMatchSpecSpec.post enc Tryz.prog Tryz.f3 false true false false W args v W':=by
 have hW':=hW
 obtain ⟨p,q,hA0,hV,rfl,hfz,hnd⟩:=hW
 have hA:DataW.TrodAll enc Tryz.prog W 0 (fun _=>true) true Tryz.f3.params.toList args.toList ds p:=hA0
 rw [Tryz.params3] at hA hval
 obtain ⟨v0,vs0,d0,ds0,p0,q0,hargs,rfl,rfl,h0,r0⟩:=trodAll_cons hA
 obtain ⟨rfl,rfl,rfl⟩:=trodAll_nil r0
 obtain rfl:args = #[v0]:=by cases args;simp_all
 obtain ⟨rfl,rfl⟩:=trodVars_none hV
 obtain ⟨c,hc,f0⟩:=open_cond (hval 0 _ v0 rfl rfl) h0
 refine (sem_trueG (law18_sem c hc) (globals hL hS) (vs := [v0]) rfl fun i d v hd hv => ?_).mono fun e W' ⟨he,hg⟩ => ?_
 ·match i,hd,hv with
  |0,hd,hv=>cases hd;cases hv;exact f0
  |i+1,hd,_=>simp at hd
 subst he
 exact ⟨_,rfl,lawpost hW' rfl hg⟩
theorem laid_met (os:Os):laidMet Tryz.prog Rows.ruleChecksMatchSpecRow.laid ((laidWorld os).forCall (fun _ _=>0) ⟨#[],#[.agg #[.int .i64 0,.slice none 0 0,sv [],.slice none 0 0,.int .i64 0,.int .i64 0]],[]⟩).memory:=
 laidMet_of_run' 8 (by kernel_rfl) (by kernel_rfl)
theorem reads (os:Os) {H:Type} (enc:TypeId × Value→H):∃ ds places,DataW.whole enc Tryz.prog ((laidWorld os).forCall (fun _ _=>0) ⟨#[],#[.agg #[.int .i64 0,.slice none 0 0,sv [],.slice none 0 0,.int .i64 0,.int .i64 0]],[]⟩).memory Tryz.f3.params.toList Rows.ruleChecksMatchSpecSpec.vars false #[.agg #[.int .i64 0,.slice none 0 0,sv [],.slice none 0 0,.int .i64 0,.int .i64 0]].toList 8=some (ds,[],places):=
 whole_some (by kernel_rfl)
theorem wit_v (os:Os):((laidWorld os).forCall (fun _ _=>0) ⟨#[],#[.agg #[.int .i64 0,.slice none 0 0,sv [],.slice none 0 0,.int .i64 0,.int .i64 0]],[]⟩).variablesRefB Tryz.checked.prog=true:=by kernel_rfl
theorem wit_r (os : Os) : (((laidWorld os).forCall (fun _ _ => 0) ⟨#[], #[.agg #[.int .i64 0, .slice none 0 0, sv [], .slice none 0 0, .int .i64 0, .int .i64 0]], []⟩).heap.toList.drop Tryz.checked.prog.globals.size).take ((begin Tryz.checked.prog (fun _ _ => 0) default).world.heap.size - Tryz.checked.prog.globals.size) =
      (begin Tryz.checked.prog (fun _ _ => 0) default).world.heap.toList.drop Tryz.checked.prog.globals.size := by kernel_rfl
theorem wit_ok (os:Os):Input.okWideB Tryz.checked.prog ((laidWorld os).forCall (fun _ _=>0) ⟨#[],#[.agg #[.int .i64 0,.slice none 0 0,sv [],.slice none 0 0,.int .i64 0,.int .i64 0]],[]⟩) 3 ⟨#[],#[.agg #[.int .i64 0,.slice none 0 0,sv [],.slice none 0 0,.int .i64 0,.int .i64 0]],[]⟩=true:=by kernel_rfl
theorem wit_sz (os:Os) {H:Type} (enc:TypeId × Value→H):(OpenSpec.ofChange Rows.ruleChecksMatchSpecSpec).bare.sizedB enc Tryz.prog Tryz.f3 false ((laidWorld os).forCall (fun _ _=>0) ⟨#[],#[.agg #[.int .i64 0,.slice none 0 0,sv [],.slice none 0 0,.int .i64 0,.int .i64 0]],[]⟩).memory #[.agg #[.int .i64 0,.slice none 0 0,sv [],.slice none 0 0,.int .i64 0,.int .i64 0]] 8=true:=by kernel_rfl
theorem no_init:Tryz.checked.prog.inits.idxOf? 3=none:=by kernel_rfl
theorem wit_row (os:Os) (H:Type) (enc:TypeId × Value→H):(OpenSpec.ofChange Rows.ruleChecksMatchSpecSpec).preRow enc Tryz.prog Tryz.f3 Rows.ruleChecksMatchSpecRow.domain false Rows.ruleChecksMatchSpecRow.laid ((laidWorld os).forCall (fun _ _=>0) ⟨#[],#[.agg #[.int .i64 0,.slice none 0 0,sv [],.slice none 0 0,.int .i64 0,.int .i64 0]],[]⟩).memory #[.agg #[.int .i64 0,.slice none 0 0,sv [],.slice none 0 0,.int .i64 0,.int .i64 0]]:=by
 obtain ⟨ds,places,hx⟩:=reads os enc
 exact OpenSpec.preRow_of_cond 8 hx rfl (fun k hk=>by cases hk) (wit_sz os enc) (laid_met os)
theorem wit (os : Os) (H : Type) (enc : TypeId × Value → H) : ∃ (w : World) (tape : Tape) (i : Input), w.os = os ∧ (w.forCall tape i).Shaped Tryz.checked.prog ∧ i.vars = [] ∧ Input.okWide Tryz.checked.prog (w.forCall tape i) .any w.heap.size 3 i ∧
      (OpenSpec.ofChange Rows.ruleChecksMatchSpecSpec).preRow enc Tryz.checked.prog Tryz.f3 Rows.ruleChecksMatchSpecRow.domain false Rows.ruleChecksMatchSpecRow.laid (w.forCall tape i).memory i.args ∧ ({} : Assume).holds Tryz.checked.prog (lone (Frame.enter Tryz.checked.prog 3 i.args .normal) [] (w.forCall tape i)) :=
  witness_row_atRef (enc := enc) (C := Tryz.checked) false (laidWorld os) #[.agg #[.int .i64 0, .slice none 0 0, sv [], .slice none 0 0, .int .i64 0, .int .i64 0]] rfl (wit_v os) (wit_r os) (wit_ok os) (wit_row os H enc)
set_option maxRecDepth 100000 in
theorem lifted (os:Os) (started:os.Started) (H:Type) (enc:TypeId × Value→H) (F:Stop.Interp):
  ReturnsInHanded {} Tryz.checked os 3 .any ((OpenSpec.ofChange Rows.ruleChecksMatchSpecSpec).preRow enc Tryz.prog Tryz.f3 Rows.ruleChecksMatchSpecRow.domain false Rows.ruleChecksMatchSpecRow.laid) (((OpenSpec.ofChange Rows.ruleChecksMatchSpecSpec).at F).post enc Tryz.prog Tryz.f3 false true false false):=
 returnsInHanded_of_row (C:=Tryz.checked) (s:=OpenSpec.ofChange Rows.ruleChecksMatchSpecSpec) own started no_init Tryz.func3 (wit os H enc)
  fun W base args ds gs before hval hW _ _ _ hL hS _=>contract H enc W base args ds gs before hval hW hL hS
theorem lm_wf:(Rows.ruleChecksMatchSpecRow.wf (OpenSpec.ofChange (OpenSpec.ofChange Rows.ruleChecksMatchSpecSpec).bare))=true:=by kernel_rfl
theorem lm_par:(Tryz.f3.params.all (Tryz.pinned.checked.prog.readableRec ·))=true:=by kernel_rfl
theorem lm_tie:(namedTie Tryz.pinned.checked.prog Rows.ruleChecksMatchSpecRow.named (OpenSpec.ofChange Rows.ruleChecksMatchSpecSpec).bare.vars)=true:=by kernel_rfl
theorem lm_inPlace:(Rows.ruleChecksMatchSpecRow.inPlace == Tryz.pinned.checked.prog.inPlace 3)=true:=by kernel_rfl
theorem lm_unf:(Rows.ruleChecksMatchSpecRow.unfollowed == Tryz.pinned.checked.prog.unfollowed 3)=true:=by kernel_rfl
theorem lm_rec:(Rows.ruleChecksMatchSpecRow.recurses == Tryz.pinned.checked.prog.recurses 3)=true:=by kernel_rfl
theorem lm_named:(Rows.ruleChecksMatchSpecRow.named == Tryz.pinned.checked.prog.varsNamed 3)=true:=by kernel_rfl
theorem lm_maps:(Rows.ruleChecksMatchSpecRow.maps == (Tryz.f3.params.toList++(OpenSpec.ofChange Rows.ruleChecksMatchSpecSpec).bare.plain.varTypes Tryz.pinned.checked.prog).any (Tryz.pinned.checked.prog.mapsRec ·))=true:=by kernel_rfl
theorem lm_ifs:(Rows.ruleChecksMatchSpecRow.ifaces == (Tryz.f3.params.toList++(OpenSpec.ofChange Rows.ruleChecksMatchSpecSpec).bare.plain.varTypes Tryz.pinned.checked.prog).any (Tryz.pinned.checked.prog.ifacesRec ·))=true:=by kernel_rfl
theorem lm_mo:(Rows.ruleChecksMatchSpecRow.mapsOut == Tryz.pinned.checked.prog.mapsAmong Tryz.f3.resultTypes.toList)=true:=by kernel_rfl
theorem lm_loops:(Rows.ruleChecksMatchSpecRow.loops == (Tryz.f3.params.toList++(OpenSpec.ofChange Rows.ruleChecksMatchSpecSpec).bare.plain.varTypes Tryz.pinned.checked.prog).any (Tryz.pinned.checked.prog.loopsFrom ·))=true:=by kernel_rfl
theorem lm_wk:(Rows.ruleChecksMatchSpecRow.wideKeys == (Tryz.f3.params.toList++(OpenSpec.ofChange Rows.ruleChecksMatchSpecSpec).bare.plain.varTypes Tryz.pinned.checked.prog++Tryz.f3.resultTypes.toList).any (Tryz.pinned.checked.prog.wideKeysFrom ·))=true:=by kernel_rfl
theorem lm_vars:((OpenSpec.ofChange Rows.ruleChecksMatchSpecSpec).bare.vars.all (Tryz.pinned.checked.prog.varReadable ·))=true:=by kernel_rfl
theorem lm_res:(Tryz.f3.resultTypes.all (fun t=>Tryz.pinned.checked.prog.readableRec t && decide (t < Tryz.pinned.checked.prog.types.size)))=true:=by kernel_rfl
theorem lm_io:(Rows.ruleChecksMatchSpecRow.ifacesOut == Tryz.f3.resultTypes.toList.any (Tryz.pinned.checked.prog.ifacesRec ·))=true:=by kernel_rfl
theorem lm_lo:(Rows.ruleChecksMatchSpecRow.loopsOut == Tryz.f3.resultTypes.toList.any (Tryz.pinned.checked.prog.loopsFrom ·))=true:=by kernel_rfl
theorem lm_pk:(Rows.ruleChecksMatchSpecRow.plainKeys == Tryz.pinned.checked.prog.plainKeys)=true:=by kernel_rfl
theorem lm_lift:(Rows.ruleChecksMatchSpecRow.lifted == Tryz.pinned.checked.prog.liftsFinal)=true:=by kernel_rfl
theorem lm_kinds:(Rows.ruleChecksMatchSpecRow.kinds == (if Rows.ruleChecksMatchSpecRow.domain.isEmpty then [] else Tryz.f3.params.toList.map fun t=>match Tryz.pinned.checked.prog.underlying t with|some (.int k)=>some k|_=>none))=true:=by kernel_rfl
theorem lm_make:(Tryz.pinned.checked.prog.make == some Rows.ruleChecksMatchSpecRow.make)=true:=by kernel_rfl
theorem lm_veiled:(Rows.ruleChecksMatchSpecRow.veiled == (Tryz.f3.params.toList++(OpenSpec.ofChange Rows.ruleChecksMatchSpecSpec).bare.plain.varTypes Tryz.pinned.checked.prog++Tryz.f3.resultTypes.toList).any (Tryz.pinned.checked.prog.veiledRec ·))=true:=by kernel_rfl
theorem lm_vf:(Rows.ruleChecksMatchSpecRow.veiledFits Tryz.pinned.checked.prog Tryz.f3.params.toList (Tryz.f3.params.toList++(OpenSpec.ofChange Rows.ruleChecksMatchSpecSpec).bare.plain.varTypes Tryz.pinned.checked.prog++Tryz.f3.resultTypes.toList))=true:=by kernel_rfl
set_option maxRecDepth 100000 in
theorem closed:joinedFacts Tryz.pinned.checked.prog 3 Tryz.f3 (OpenSpec.ofChange Rows.ruleChecksMatchSpecSpec).bare Rows.ruleChecksMatchSpecRow=true:=
 joined_mk lm_wf laidOut pf_maps lm_par lm_tie rfl pf_stops rfl pf_knobs lm_inPlace lm_unf lm_rec lm_named lm_maps lm_ifs lm_mo lm_loops lm_wk lm_vars lm_res lm_io lm_lo lm_pk rfl pf_heard pf_enter lm_lift lm_make lm_kinds rfl lm_veiled lm_vf
theorem named_f:Tryz.pinned.checked.prog.funcNamed Rows.ruleChecksMatchSpecRow.func=some 3:=by kernel_rfl
theorem said:Rows.RuleChecksMatchSpecSaid:=
 OpenClaim.holds_of_cond 3 Tryz.f3 rfl rfl rfl rfl rfl rfl rfl ⟨rfl,rfl,rfl,rfl,rfl⟩ rfl rfl rfl rfl rfl named_f Tryz.func3 closed
  (of_decide_eq_true (by kernel_rfl)) (by unfold Func.isWrapper;first|(rw [if_pos (by decide +kernel)];kernel_rfl)|(rw [if_neg (by decide +kernel)];exact ⟨rfl,rfl⟩))
  (fun os started H enc _ F=>by rw [OpenClaim.pre_eq_preRow];exact lifted os started H enc F)
end Go.Proofs.YtindehjiaknokaaGreatDoor.checks
