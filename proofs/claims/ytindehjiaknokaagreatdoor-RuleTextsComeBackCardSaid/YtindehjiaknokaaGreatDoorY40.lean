/- RuleTextsComeBack: for every condition and every string, where the listed tables hold what they do, the law returns true and turns nothing that was there. -/
import Derived.Test.YtindehjiaknokaaGreatDoorY34
import Derived.Test.YtindehjiaknokaaGreatDoorY38
import Derived.Test.YtindehjiaknokaaGreatDoorY39
namespace Go.Proofs.YtindehjiaknokaaGreatDoor.comeback
set_option linter.unusedSimpArgs false
set_option linter.unusedVariables false
open Go.ChangeShapes Go.WideShapes Go.ChangeAt Go.RowKit Go.Deep
set_option maxRecDepth 100000 in
theorem globals {W:World} (hL:laidMetH Tryz.prog Rows.ruleTextsComeBackRow.laid W) (hS:W.ShapedOpen Tryz.prog):∀ (g:Nat) (φ:Obj→Prop),GB g=some φ→∃ o,W.heap[g]?=some o∧φ o:=by
 have hL':laidMet Tryz.prog Rows.ruleTextsComeBackRow.laid W:=hL
 intro g φ hg
 unfold GB at hg
 split at hg
 ·cases hg
  exact laid_tab (name:=Rows.ruleTextsComeBackRow.named.getD 5 default) (k:=.u64) (zs:=Lib.pow10Tab) hL' rfl (by kernel_rfl) (by kernel_rfl) Tryz.underlying164 Tryz.underlying134 (by kernel_rfl) (by kernel_rfl)
 ·cases hg
  exact laid_tab (name:=Rows.ruleTextsComeBackRow.named.getD 7 default) (k:=.u8) (zs:=bruijn) hL' rfl (by kernel_rfl) (by kernel_rfl) Tryz.underlying214 Tryz.underlying5 (by kernel_rfl) (by kernel_rfl)
 ·cases hg
  exact max_there hS
 ·cases hg
theorem lawpost {H:Type} {enc:TypeId × Value→H} {W W':World} {args:Array Value} {ds gs:List (DataW H)} {before:List MemPlace} (hW:DataW.Whole enc Tryz.prog Tryz.f4.params.toList Rows.ruleTextsComeBackSpec.vars false W args.toList ds gs before) (hs:Rows.ruleTextsComeBackSpec.fn H (ds++gs)={ results := [.lit (.bool true)],args:=ds }) (hg:Ext W W'):
  Rows.ruleTextsComeBackSpec.post enc Tryz.prog Tryz.f4 false true false false W args (.bool true) W':=
 law_post laidOut rfl (by kernel_rfl) Tryz.underlying4 (by
  rw [Tryz.params4]
  intro t ht
  have ht':t=25∨t=9:=by simpa using ht
  rcases ht' with rfl|rfl
  ·exact ⟨by kernel_rfl,of_decide_eq_true (by kernel_rfl)⟩
  ·exact ⟨by kernel_rfl,of_decide_eq_true (by kernel_rfl)⟩) hW hs hg.below
set_option maxRecDepth 100000 in
theorem contract (H:Type) (enc:TypeId × Value→H) (W:World) (base:Nat) (args:Array Value) (ds gs:List (DataW H)) (before:List MemPlace)
  (hval:∀ (j:Nat) t v,Tryz.f4.params[j]?=some t→args[j]?=some v→Value.okWide Tryz.prog W .any base t v)
  (hW:DataW.Whole enc Tryz.prog Tryz.f4.params.toList Rows.ruleTextsComeBackSpec.vars false W args.toList ds gs before) (hL:laidMetH Tryz.prog Rows.ruleTextsComeBackRow.laid W) (hS:W.ShapedOpen Tryz.prog):
  Calls Tryz.prog 4 args W fun e W'=>∃ v,e=.returned v∧Rows.ruleTextsComeBackSpec.post enc Tryz.prog Tryz.f4 false true false false W args v W':=by
 have hW':=hW
 obtain ⟨p,q,hA0,hV,rfl,hfz,hnd⟩:=hW
 have hA:DataW.TrodAll enc Tryz.prog W 0 (fun _=>true) true Tryz.f4.params.toList args.toList ds p:=hA0
 rw [Tryz.params4] at hA hval
 obtain ⟨v0,vs0,d0,ds0,p0,q0,hargs,rfl,rfl,h0,r0⟩:=trodAll_cons hA
 obtain ⟨v1,vs1,d1,ds1,p1,q1,rfl,rfl,rfl,h1,r1⟩:=trodAll_cons r0
 obtain ⟨rfl,rfl,rfl⟩:=trodAll_nil r1
 obtain rfl:args = #[v0,v1]:=by cases args;simp_all
 obtain ⟨rfl,rfl⟩:=trodVars_none hV
 obtain ⟨c,hc,f0⟩:=open_cond (hval 0 _ v0 rfl rfl) h0
 obtain ⟨s,rfl,hmax⟩:=open_txt (hval 1 _ v1 rfl rfl) h1
 refine (sem_trueG (law24_sem c s hmax) (globals hL hS) (vs := [v0,sv s]) rfl fun i d v hd hv => ?_).mono fun e W' ⟨he,hg⟩ => ?_
 ·match i,hd,hv with
  |0,hd,hv=>cases hd;cases hv;exact f0
  |1,hd,hv=>cases hd;cases hv;exact .str _
  |i+2,hd,_=>simp at hd
 subst he
 exact ⟨_,rfl,lawpost hW' rfl hg⟩
theorem laid_met (os:Os):laidMet Tryz.prog Rows.ruleTextsComeBackRow.laid ((laidWorld os).forCall (fun _ _=>0) ⟨#[],#[.agg #[.int .i64 0,.slice none 0 0,sv [],.slice none 0 0,.int .i64 0,.int .i64 0],sv []],[]⟩).memory:=
 laidMet_of_run' 8 (by kernel_rfl) (by kernel_rfl)
theorem reads (os:Os) {H:Type} (enc:TypeId × Value→H):∃ ds places,DataW.whole enc Tryz.prog ((laidWorld os).forCall (fun _ _=>0) ⟨#[],#[.agg #[.int .i64 0,.slice none 0 0,sv [],.slice none 0 0,.int .i64 0,.int .i64 0],sv []],[]⟩).memory Tryz.f4.params.toList Rows.ruleTextsComeBackSpec.vars false #[.agg #[.int .i64 0,.slice none 0 0,sv [],.slice none 0 0,.int .i64 0,.int .i64 0],sv []].toList 8=some (ds,[],places):=
 whole_some (by kernel_rfl)
theorem wit_v (os:Os):((laidWorld os).forCall (fun _ _=>0) ⟨#[],#[.agg #[.int .i64 0,.slice none 0 0,sv [],.slice none 0 0,.int .i64 0,.int .i64 0],sv []],[]⟩).variablesRefB Tryz.checked.prog=true:=by kernel_rfl
theorem wit_r (os : Os) : (((laidWorld os).forCall (fun _ _ => 0) ⟨#[], #[.agg #[.int .i64 0, .slice none 0 0, sv [], .slice none 0 0, .int .i64 0, .int .i64 0], sv []], []⟩).heap.toList.drop Tryz.checked.prog.globals.size).take ((begin Tryz.checked.prog (fun _ _ => 0) default).world.heap.size - Tryz.checked.prog.globals.size) =
      (begin Tryz.checked.prog (fun _ _ => 0) default).world.heap.toList.drop Tryz.checked.prog.globals.size := by kernel_rfl
theorem wit_ok (os:Os):Input.okWideB Tryz.checked.prog ((laidWorld os).forCall (fun _ _=>0) ⟨#[],#[.agg #[.int .i64 0,.slice none 0 0,sv [],.slice none 0 0,.int .i64 0,.int .i64 0],sv []],[]⟩) 4 ⟨#[],#[.agg #[.int .i64 0,.slice none 0 0,sv [],.slice none 0 0,.int .i64 0,.int .i64 0],sv []],[]⟩=true:=by kernel_rfl
theorem wit_sz (os:Os) {H:Type} (enc:TypeId × Value→H):(OpenSpec.ofChange Rows.ruleTextsComeBackSpec).bare.sizedB enc Tryz.prog Tryz.f4 false ((laidWorld os).forCall (fun _ _=>0) ⟨#[],#[.agg #[.int .i64 0,.slice none 0 0,sv [],.slice none 0 0,.int .i64 0,.int .i64 0],sv []],[]⟩).memory #[.agg #[.int .i64 0,.slice none 0 0,sv [],.slice none 0 0,.int .i64 0,.int .i64 0],sv []] 8=true:=by kernel_rfl
theorem no_init:Tryz.checked.prog.inits.idxOf? 4=none:=by kernel_rfl
theorem wit_row (os:Os) (H:Type) (enc:TypeId × Value→H):(OpenSpec.ofChange Rows.ruleTextsComeBackSpec).preRow enc Tryz.prog Tryz.f4 Rows.ruleTextsComeBackRow.domain false Rows.ruleTextsComeBackRow.laid ((laidWorld os).forCall (fun _ _=>0) ⟨#[],#[.agg #[.int .i64 0,.slice none 0 0,sv [],.slice none 0 0,.int .i64 0,.int .i64 0],sv []],[]⟩).memory #[.agg #[.int .i64 0,.slice none 0 0,sv [],.slice none 0 0,.int .i64 0,.int .i64 0],sv []]:=by
 obtain ⟨ds,places,hx⟩:=reads os enc
 exact OpenSpec.preRow_of_cond 8 hx rfl (fun k hk=>by cases hk) (wit_sz os enc) (laid_met os)
theorem wit (os : Os) (H : Type) (enc : TypeId × Value → H) : ∃ (w : World) (tape : Tape) (i : Input), w.os = os ∧ (w.forCall tape i).Shaped Tryz.checked.prog ∧ i.vars = [] ∧ Input.okWide Tryz.checked.prog (w.forCall tape i) .any w.heap.size 4 i ∧
      (OpenSpec.ofChange Rows.ruleTextsComeBackSpec).preRow enc Tryz.checked.prog Tryz.f4 Rows.ruleTextsComeBackRow.domain false Rows.ruleTextsComeBackRow.laid (w.forCall tape i).memory i.args ∧ ({} : Assume).holds Tryz.checked.prog (lone (Frame.enter Tryz.checked.prog 4 i.args .normal) [] (w.forCall tape i)) :=
  witness_row_atRef (enc := enc) (C := Tryz.checked) false (laidWorld os) #[.agg #[.int .i64 0, .slice none 0 0, sv [], .slice none 0 0, .int .i64 0, .int .i64 0], sv []] rfl (wit_v os) (wit_r os) (wit_ok os) (wit_row os H enc)
set_option maxRecDepth 100000 in
theorem lifted (os:Os) (started:os.Started) (H:Type) (enc:TypeId × Value→H) (F:Stop.Interp):
  ReturnsInHanded {} Tryz.checked os 4 .any ((OpenSpec.ofChange Rows.ruleTextsComeBackSpec).preRow enc Tryz.prog Tryz.f4 Rows.ruleTextsComeBackRow.domain false Rows.ruleTextsComeBackRow.laid) (((OpenSpec.ofChange Rows.ruleTextsComeBackSpec).at F).post enc Tryz.prog Tryz.f4 false true false false):=
 returnsInHanded_of_row (C:=Tryz.checked) (s:=OpenSpec.ofChange Rows.ruleTextsComeBackSpec) own started no_init Tryz.func4 (wit os H enc)
  fun W base args ds gs before hval hW _ _ _ hL hS _=>contract H enc W base args ds gs before hval hW hL hS
theorem lm_wf:(Rows.ruleTextsComeBackRow.wf (OpenSpec.ofChange (OpenSpec.ofChange Rows.ruleTextsComeBackSpec).bare))=true:=by kernel_rfl
theorem lm_par:(Tryz.f4.params.all (Tryz.pinned.checked.prog.readableRec ·))=true:=by kernel_rfl
theorem lm_tie:(namedTie Tryz.pinned.checked.prog Rows.ruleTextsComeBackRow.named (OpenSpec.ofChange Rows.ruleTextsComeBackSpec).bare.vars)=true:=by kernel_rfl
theorem lm_inPlace:(Rows.ruleTextsComeBackRow.inPlace == Tryz.pinned.checked.prog.inPlace 4)=true:=by kernel_rfl
theorem lm_unf:(Rows.ruleTextsComeBackRow.unfollowed == Tryz.pinned.checked.prog.unfollowed 4)=true:=by kernel_rfl
theorem lm_rec:(Rows.ruleTextsComeBackRow.recurses == Tryz.pinned.checked.prog.recurses 4)=true:=by kernel_rfl
theorem lm_named:(Rows.ruleTextsComeBackRow.named == Tryz.pinned.checked.prog.varsNamed 4)=true:=by kernel_rfl
theorem lm_maps:(Rows.ruleTextsComeBackRow.maps == (Tryz.f4.params.toList++(OpenSpec.ofChange Rows.ruleTextsComeBackSpec).bare.plain.varTypes Tryz.pinned.checked.prog).any (Tryz.pinned.checked.prog.mapsRec ·))=true:=by kernel_rfl
theorem lm_ifs:(Rows.ruleTextsComeBackRow.ifaces == (Tryz.f4.params.toList++(OpenSpec.ofChange Rows.ruleTextsComeBackSpec).bare.plain.varTypes Tryz.pinned.checked.prog).any (Tryz.pinned.checked.prog.ifacesRec ·))=true:=by kernel_rfl
theorem lm_mo:(Rows.ruleTextsComeBackRow.mapsOut == Tryz.pinned.checked.prog.mapsAmong Tryz.f4.resultTypes.toList)=true:=by kernel_rfl
theorem lm_loops:(Rows.ruleTextsComeBackRow.loops == (Tryz.f4.params.toList++(OpenSpec.ofChange Rows.ruleTextsComeBackSpec).bare.plain.varTypes Tryz.pinned.checked.prog).any (Tryz.pinned.checked.prog.loopsFrom ·))=true:=by kernel_rfl
theorem lm_wk:(Rows.ruleTextsComeBackRow.wideKeys == (Tryz.f4.params.toList++(OpenSpec.ofChange Rows.ruleTextsComeBackSpec).bare.plain.varTypes Tryz.pinned.checked.prog++Tryz.f4.resultTypes.toList).any (Tryz.pinned.checked.prog.wideKeysFrom ·))=true:=by kernel_rfl
theorem lm_vars:((OpenSpec.ofChange Rows.ruleTextsComeBackSpec).bare.vars.all (Tryz.pinned.checked.prog.varReadable ·))=true:=by kernel_rfl
theorem lm_res:(Tryz.f4.resultTypes.all (fun t=>Tryz.pinned.checked.prog.readableRec t && decide (t < Tryz.pinned.checked.prog.types.size)))=true:=by kernel_rfl
theorem lm_io:(Rows.ruleTextsComeBackRow.ifacesOut == Tryz.f4.resultTypes.toList.any (Tryz.pinned.checked.prog.ifacesRec ·))=true:=by kernel_rfl
theorem lm_lo:(Rows.ruleTextsComeBackRow.loopsOut == Tryz.f4.resultTypes.toList.any (Tryz.pinned.checked.prog.loopsFrom ·))=true:=by kernel_rfl
theorem lm_pk:(Rows.ruleTextsComeBackRow.plainKeys == Tryz.pinned.checked.prog.plainKeys)=true:=by kernel_rfl
theorem lm_lift:(Rows.ruleTextsComeBackRow.lifted == Tryz.pinned.checked.prog.liftsFinal)=true:=by kernel_rfl
theorem lm_kinds:(Rows.ruleTextsComeBackRow.kinds == (if Rows.ruleTextsComeBackRow.domain.isEmpty then [] else Tryz.f4.params.toList.map fun t=>match Tryz.pinned.checked.prog.underlying t with|some (.int k)=>some k|_=>none))=true:=by kernel_rfl
theorem lm_make:(Tryz.pinned.checked.prog.make == some Rows.ruleTextsComeBackRow.make)=true:=by kernel_rfl
theorem lm_veiled:(Rows.ruleTextsComeBackRow.veiled == (Tryz.f4.params.toList++(OpenSpec.ofChange Rows.ruleTextsComeBackSpec).bare.plain.varTypes Tryz.pinned.checked.prog++Tryz.f4.resultTypes.toList).any (Tryz.pinned.checked.prog.veiledRec ·))=true:=by kernel_rfl
theorem lm_vf:(Rows.ruleTextsComeBackRow.veiledFits Tryz.pinned.checked.prog Tryz.f4.params.toList (Tryz.f4.params.toList++(OpenSpec.ofChange Rows.ruleTextsComeBackSpec).bare.plain.varTypes Tryz.pinned.checked.prog++Tryz.f4.resultTypes.toList))=true:=by kernel_rfl
set_option maxRecDepth 100000 in
theorem closed:joinedFacts Tryz.pinned.checked.prog 4 Tryz.f4 (OpenSpec.ofChange Rows.ruleTextsComeBackSpec).bare Rows.ruleTextsComeBackRow=true:=
 joined_mk lm_wf laidOut pf_maps lm_par lm_tie rfl pf_stops rfl pf_knobs lm_inPlace lm_unf lm_rec lm_named lm_maps lm_ifs lm_mo lm_loops lm_wk lm_vars lm_res lm_io lm_lo lm_pk rfl pf_heard pf_enter lm_lift lm_make lm_kinds rfl lm_veiled lm_vf
theorem named_f:Tryz.pinned.checked.prog.funcNamed Rows.ruleTextsComeBackRow.func=some 4:=by kernel_rfl
theorem said:Rows.RuleTextsComeBackSaid:=
 OpenClaim.holds_of_cond 4 Tryz.f4 rfl rfl rfl rfl rfl rfl rfl ⟨rfl,rfl,rfl,rfl,rfl⟩ rfl rfl rfl rfl rfl named_f Tryz.func4 closed
  (of_decide_eq_true (by kernel_rfl)) (by unfold Func.isWrapper;first|(rw [if_pos (by decide +kernel)];kernel_rfl)|(rw [if_neg (by decide +kernel)];exact ⟨rfl,rfl⟩))
  (fun os started H enc _ F=>by rw [OpenClaim.pre_eq_preRow];exact lifted os started H enc F)
end Go.Proofs.YtindehjiaknokaaGreatDoor.comeback
