/- RemapThensMatchSpec: for every two maps, where the listed tables hold what they do, the law returns true and turns nothing that was there. -/
import Derived.Test.YtnjgoldinaffgaaGreatDoorY36
import Derived.Test.YtnjgoldinaffgaaGreatDoorY41
import Derived.Test.YtnjgoldinaffgaaGreatDoorY42
namespace Go.Proofs.YtnjgoldinaffgaaGreatDoor.thens
open _root_.Go.Proofs.Tryz
set_option linter.unusedSimpArgs false
set_option linter.unusedVariables false
open Go.ChangeShapes Go.WideShapes Go.ChangeAt Go.RowKit Go.Deep
set_option maxRecDepth 100000 in
theorem globals {W:World} (hL:laidMetH Tryz.prog Rows.remapThensMatchSpecRow.laid W) (hS:W.ShapedOpen Tryz.prog):∀ (g:Nat) (φ:Obj→Prop),GB g=some φ→∃ o,W.heap[g]?=some o∧φ o:=by
 have hL':laidMet Tryz.prog Rows.remapThensMatchSpecRow.laid W:=hL
 intro g φ hg
 unfold GB at hg
 split at hg
 ·cases hg
  exact zDm (name:=Rows.remapThensMatchSpecRow.named.getD 5 default) (k:=.u64) (zs:=Lib.pow10Tab) hL' rfl (by kernel_rfl) (by kernel_rfl) underlying265 underlying162 (by kernel_rfl) (by kernel_rfl)
 ·cases hg
  exact zDm (name:=Rows.remapThensMatchSpecRow.named.getD 7 default) (k:=.u8) (zs:=bruijn) hL' rfl (by kernel_rfl) (by kernel_rfl) underlying273 underlying5 (by kernel_rfl) (by kernel_rfl)
 ·cases hg
  exact zHb hS
 ·cases hg
theorem zLC {H:Type} {enc:TypeId × Value→H} {W W':World} {args:Array Value} {ds gs:List (DataW H)} {before:List MemPlace} (hW:DataW.Whole enc Tryz.prog Tryz.f3.params.toList Rows.remapThensMatchSpecSpec.vars false W args.toList ds gs before) (hs:Rows.remapThensMatchSpecSpec.fn H (ds++gs)={ results := [.lit (.bool true)],args:=ds }) (hg:Ext W W'):
  Rows.remapThensMatchSpecSpec.post enc Tryz.prog Tryz.f3 false true false false W args (.bool true) W':=
 zIW zFQ rfl (by kernel_rfl) underlying4 (by
  rw [params3]
  intro t ht
  have ht':t=25∨t=25:=by simpa using ht
  rcases ht' with rfl|rfl
  ·exact ⟨by kernel_rfl,of_decide_eq_true (by kernel_rfl)⟩
  ·exact ⟨by kernel_rfl,of_decide_eq_true (by kernel_rfl)⟩) hW hs hg.below
set_option maxRecDepth 100000 in
theorem zDW (H:Type) (enc:TypeId × Value→H) (W:World) (base:Nat) (args:Array Value) (ds gs:List (DataW H)) (before:List MemPlace)
  (hval:∀ (j:Nat) t v,Tryz.f3.params[j]?=some t→args[j]?=some v→Value.okWide Tryz.prog W .any base t v)
  (hW:DataW.Whole enc Tryz.prog Tryz.f3.params.toList Rows.remapThensMatchSpecSpec.vars false W args.toList ds gs before) (hL:laidMetH Tryz.prog Rows.remapThensMatchSpecRow.laid W) (hS:W.ShapedOpen Tryz.prog):
  Calls Tryz.prog 3 args W fun e W'=>∃ v,e=.returned v∧Rows.remapThensMatchSpecSpec.post enc Tryz.prog Tryz.f3 false true false false W args v W':=by
 have hW':=hW
 obtain ⟨p,q,hA0,hV,rfl,hfz,hnd⟩:=hW
 have hA:DataW.TrodAll enc Tryz.prog W 0 (fun _=>true) true Tryz.f3.params.toList args.toList ds p:=hA0
 rw [params3] at hA hval
 obtain ⟨v0,vs0,d0,ds0,p0,q0,hargs,rfl,rfl,h0,r0⟩:=trodAll_cons hA
 obtain ⟨v1,vs1,d1,ds1,p1,q1,rfl,rfl,rfl,h1,r1⟩:=trodAll_cons r0
 obtain ⟨rfl,rfl,rfl⟩:=trodAll_nil r1
 obtain rfl:args = #[v0,v1]:=by cases args;simp_all
 obtain ⟨rfl,rfl⟩:=trodVars_none hV
 obtain ⟨m,hm,f0⟩:=zCP (hval 0 _ v0 rfl rfl) h0
 obtain ⟨k,hk,f1⟩:=zCP (hval 1 _ v1 rfl rfl) h1
 refine (zGB (zHf m k hm hk) (globals hL hS) (vs := [v0,v1]) rfl fun i d v hd hv => ?_).mono fun e W' ⟨he,hg⟩ => ?_
 ·match i,hd,hv with
  |0,hd,hv=>cases hd;cases hv;exact f0
  |1,hd,hv=>cases hd;cases hv;exact f1
  |i+2,hd,_=>simp at hd
 subst he
 exact ⟨_,rfl,zLC hW' rfl hg⟩
theorem zIX (os:Os):laidMet Tryz.prog Rows.remapThensMatchSpecRow.laid ((gN os).forCall (fun _ _=>0) ⟨#[],#[.agg #[sv [],.slice none 0 0,.slice none 0 0],.agg #[sv [],.slice none 0 0,.slice none 0 0]],[]⟩).memory:=
 laidMet_of_run' 8 (by kernel_rfl) (by kernel_rfl)
theorem zFy (os:Os) {H:Type} (enc:TypeId × Value→H):∃ ds places,DataW.whole enc Tryz.prog ((gN os).forCall (fun _ _=>0) ⟨#[],#[.agg #[sv [],.slice none 0 0,.slice none 0 0],.agg #[sv [],.slice none 0 0,.slice none 0 0]],[]⟩).memory Tryz.f3.params.toList Rows.remapThensMatchSpecSpec.vars false #[.agg #[sv [],.slice none 0 0,.slice none 0 0],.agg #[sv [],.slice none 0 0,.slice none 0 0]].toList 8=some (ds,[],places):=
 zEh (by kernel_rfl)
theorem zN7 (os:Os):((gN os).forCall (fun _ _=>0) ⟨#[],#[.agg #[sv [],.slice none 0 0,.slice none 0 0],.agg #[sv [],.slice none 0 0,.slice none 0 0]],[]⟩).variablesRefB Tryz.checked.prog=true:=by kernel_rfl
theorem zN8 (os : Os) : (((gN os).forCall (fun _ _ => 0) ⟨#[], #[.agg #[sv [], .slice none 0 0, .slice none 0 0], .agg #[sv [], .slice none 0 0, .slice none 0 0]], []⟩).heap.toList.drop Tryz.checked.prog.globals.size).take ((begin Tryz.checked.prog (fun _ _ => 0) default).world.heap.size - Tryz.checked.prog.globals.size) =
      (begin Tryz.checked.prog (fun _ _ => 0) default).world.heap.toList.drop Tryz.checked.prog.globals.size := by kernel_rfl
theorem zM7 (os:Os):Input.okWideB Tryz.checked.prog ((gN os).forCall (fun _ _=>0) ⟨#[],#[.agg #[sv [],.slice none 0 0,.slice none 0 0],.agg #[sv [],.slice none 0 0,.slice none 0 0]],[]⟩) 3 ⟨#[],#[.agg #[sv [],.slice none 0 0,.slice none 0 0],.agg #[sv [],.slice none 0 0,.slice none 0 0]],[]⟩=true:=by kernel_rfl
theorem zM6 (os:Os) {H:Type} (enc:TypeId × Value→H):(OpenSpec.ofChange Rows.remapThensMatchSpecSpec).bare.sizedB enc Tryz.prog Tryz.f3 false ((gN os).forCall (fun _ _=>0) ⟨#[],#[.agg #[sv [],.slice none 0 0,.slice none 0 0],.agg #[sv [],.slice none 0 0,.slice none 0 0]],[]⟩).memory #[.agg #[sv [],.slice none 0 0,.slice none 0 0],.agg #[sv [],.slice none 0 0,.slice none 0 0]] 8=true:=by kernel_rfl
theorem zLp:Tryz.checked.prog.inits.idxOf? 3=none:=by kernel_rfl
theorem zKR (os:Os) (H:Type) (enc:TypeId × Value→H):(OpenSpec.ofChange Rows.remapThensMatchSpecSpec).preRow enc Tryz.prog Tryz.f3 Rows.remapThensMatchSpecRow.domain false Rows.remapThensMatchSpecRow.laid ((gN os).forCall (fun _ _=>0) ⟨#[],#[.agg #[sv [],.slice none 0 0,.slice none 0 0],.agg #[sv [],.slice none 0 0,.slice none 0 0]],[]⟩).memory #[.agg #[sv [],.slice none 0 0,.slice none 0 0],.agg #[sv [],.slice none 0 0,.slice none 0 0]]:=by
 obtain ⟨ds,places,hx⟩:=zFy os enc
 exact OpenSpec.preRow_of_cond 8 hx rfl (fun k hk=>by cases hk) (zM6 os enc) (zIX os)
theorem wit (os : Os) (H : Type) (enc : TypeId × Value → H) : ∃ (w : World) (tape : Tape) (i : Input), w.os = os ∧ (w.forCall tape i).Shaped Tryz.checked.prog ∧ i.vars = [] ∧ Input.okWide Tryz.checked.prog (w.forCall tape i) .any w.heap.size 3 i ∧
      (OpenSpec.ofChange Rows.remapThensMatchSpecSpec).preRow enc Tryz.checked.prog Tryz.f3 Rows.remapThensMatchSpecRow.domain false Rows.remapThensMatchSpecRow.laid (w.forCall tape i).memory i.args ∧ ({} : Assume).holds Tryz.checked.prog (lone (Frame.enter Tryz.checked.prog 3 i.args .normal) [] (w.forCall tape i)) :=
  witness_row_atRef (enc := enc) (C := Tryz.checked) false (gN os) #[.agg #[sv [], .slice none 0 0, .slice none 0 0], .agg #[sv [], .slice none 0 0, .slice none 0 0]] rfl (zN7 os) (zN8 os) (zM7 os) (zKR os H enc)
set_option maxRecDepth 100000 in
theorem lifted (os:Os) (started:os.Started) (H:Type) (enc:TypeId × Value→H) (F:Stop.Interp):
  ReturnsInHanded {} Tryz.checked os 3 .any ((OpenSpec.ofChange Rows.remapThensMatchSpecSpec).preRow enc Tryz.prog Tryz.f3 Rows.remapThensMatchSpecRow.domain false Rows.remapThensMatchSpecRow.laid) (((OpenSpec.ofChange Rows.remapThensMatchSpecSpec).at F).post enc Tryz.prog Tryz.f3 false true false false):=
 returnsInHanded_of_row (C:=Tryz.checked) (s:=OpenSpec.ofChange Rows.remapThensMatchSpecSpec) own started zLp func3 (wit os H enc)
  fun W base args ds gs before hval hW _ _ _ hL hS _=>zDW H enc W base args ds gs before hval hW hL hS
theorem zPq:(Rows.remapThensMatchSpecRow.wf (OpenSpec.ofChange (OpenSpec.ofChange Rows.remapThensMatchSpecSpec).bare))=true:=by kernel_rfl
theorem zNO:(Tryz.f3.params.all (Tryz.pinned.checked.prog.readableRec ·))=true:=by kernel_rfl
theorem zNL:(namedTie Tryz.pinned.checked.prog Rows.remapThensMatchSpecRow.named (OpenSpec.ofChange Rows.remapThensMatchSpecSpec).bare.vars)=true:=by kernel_rfl
theorem zEU:(Rows.remapThensMatchSpecRow.inPlace == Tryz.pinned.checked.prog.inPlace 3)=true:=by kernel_rfl
theorem zNK:(Rows.remapThensMatchSpecRow.unfollowed == Tryz.pinned.checked.prog.unfollowed 3)=true:=by kernel_rfl
theorem zNN:(Rows.remapThensMatchSpecRow.recurses == Tryz.pinned.checked.prog.recurses 3)=true:=by kernel_rfl
theorem zIR:(Rows.remapThensMatchSpecRow.named == Tryz.pinned.checked.prog.varsNamed 3)=true:=by kernel_rfl
theorem zLu:(Rows.remapThensMatchSpecRow.maps == (Tryz.f3.params.toList++(OpenSpec.ofChange Rows.remapThensMatchSpecSpec).bare.plain.varTypes Tryz.pinned.checked.prog).any (Tryz.pinned.checked.prog.mapsRec ·))=true:=by kernel_rfl
theorem zNP:(Rows.remapThensMatchSpecRow.ifaces == (Tryz.f3.params.toList++(OpenSpec.ofChange Rows.remapThensMatchSpecSpec).bare.plain.varTypes Tryz.pinned.checked.prog).any (Tryz.pinned.checked.prog.ifacesRec ·))=true:=by kernel_rfl
theorem zPt:(Rows.remapThensMatchSpecRow.mapsOut == Tryz.pinned.checked.prog.mapsAmong Tryz.f3.resultTypes.toList)=true:=by kernel_rfl
theorem zIS:(Rows.remapThensMatchSpecRow.loops == (Tryz.f3.params.toList++(OpenSpec.ofChange Rows.remapThensMatchSpecSpec).bare.plain.varTypes Tryz.pinned.checked.prog).any (Tryz.pinned.checked.prog.loopsFrom ·))=true:=by kernel_rfl
theorem zPp:(Rows.remapThensMatchSpecRow.wideKeys == (Tryz.f3.params.toList++(OpenSpec.ofChange Rows.remapThensMatchSpecSpec).bare.plain.varTypes Tryz.pinned.checked.prog++Tryz.f3.resultTypes.toList).any (Tryz.pinned.checked.prog.wideKeysFrom ·))=true:=by kernel_rfl
theorem zLt:((OpenSpec.ofChange Rows.remapThensMatchSpecSpec).bare.vars.all (Tryz.pinned.checked.prog.varReadable ·))=true:=by kernel_rfl
theorem zNM:(Tryz.f3.resultTypes.all (fun t=>Tryz.pinned.checked.prog.readableRec t && decide (t < Tryz.pinned.checked.prog.types.size)))=true:=by kernel_rfl
theorem zPv:(Rows.remapThensMatchSpecRow.ifacesOut == Tryz.f3.resultTypes.toList.any (Tryz.pinned.checked.prog.ifacesRec ·))=true:=by kernel_rfl
theorem zPu:(Rows.remapThensMatchSpecRow.loopsOut == Tryz.f3.resultTypes.toList.any (Tryz.pinned.checked.prog.loopsFrom ·))=true:=by kernel_rfl
theorem zPs:(Rows.remapThensMatchSpecRow.plainKeys == Tryz.pinned.checked.prog.plainKeys)=true:=by kernel_rfl
theorem zLw:(Rows.remapThensMatchSpecRow.lifted == Tryz.pinned.checked.prog.liftsFinal)=true:=by kernel_rfl
theorem zIT:(Rows.remapThensMatchSpecRow.kinds == (if Rows.remapThensMatchSpecRow.domain.isEmpty then [] else Tryz.f3.params.toList.map fun t=>match Tryz.pinned.checked.prog.underlying t with|some (.int k)=>some k|_=>none))=true:=by kernel_rfl
theorem zLv:(Tryz.pinned.checked.prog.make == some Rows.remapThensMatchSpecRow.make)=true:=by kernel_rfl
theorem zHd:(Rows.remapThensMatchSpecRow.veiled == (Tryz.f3.params.toList++(OpenSpec.ofChange Rows.remapThensMatchSpecSpec).bare.plain.varTypes Tryz.pinned.checked.prog++Tryz.f3.resultTypes.toList).any (Tryz.pinned.checked.prog.veiledRec ·))=true:=by kernel_rfl
theorem zPr:(Rows.remapThensMatchSpecRow.veiledFits Tryz.pinned.checked.prog Tryz.f3.params.toList (Tryz.f3.params.toList++(OpenSpec.ofChange Rows.remapThensMatchSpecSpec).bare.plain.varTypes Tryz.pinned.checked.prog++Tryz.f3.resultTypes.toList))=true:=by kernel_rfl
set_option maxRecDepth 100000 in
theorem zN1:joinedFacts Tryz.pinned.checked.prog 3 Tryz.f3 (OpenSpec.ofChange Rows.remapThensMatchSpecSpec).bare Rows.remapThensMatchSpecRow=true:=
 zHh zPq zFQ zK6 zNO zNL rfl zIm rfl zIo zEU zNK zNN zIR zLu zNP zPt zIS zPp zLt zNM zPv zPu zPs rfl zIp zIq zLw zLv zIT rfl zHd zPr
theorem named_f:Tryz.pinned.checked.prog.funcNamed Rows.remapThensMatchSpecRow.func=some 3:=by kernel_rfl
theorem zQX:Rows.RemapThensMatchSpecSaid:=
 OpenClaim.holds_of_cond 3 Tryz.f3 rfl rfl rfl rfl rfl rfl rfl ⟨rfl,rfl,rfl,rfl,rfl⟩ rfl rfl rfl rfl rfl named_f func3 zN1
  (of_decide_eq_true (by kernel_rfl)) (by unfold Func.isWrapper;first|(rw [if_pos (by decide +kernel)];kernel_rfl)|(rw [if_neg (by decide +kernel)];exact ⟨rfl,rfl⟩))
  (fun os started H enc _ F=>by rw [OpenClaim.pre_eq_preRow];exact lifted os started H enc F)
end Go.Proofs.YtnjgoldinaffgaaGreatDoor.thens
