/- From a zDW to a row: what is the same for every law of this seat. -/
import Derived.Test.YtnjgoldinaffgaaGreatDoorCards
import Derived.Test.YtnjgoldinaffgaaGreatDoorTie
import Derived.Test.YtnjgoldinaffgaaGreatDoorY11
import Derived.LaidSub
import Derived.ProofKit
import Derived.OpenShut
import Derived.Carry
import Derived.Deep.Fields
import Derived.Deep.DeepHandedRow
import Derived.Lib.LaidTab
namespace Go.Proofs.YtnjgoldinaffgaaGreatDoor
set_option linter.unusedSimpArgs false
set_option linter.unusedVariables false
open Go.ChangeShapes Go.WideShapes Go.ChangeAt Go.RowKit Go.Deep
theorem own:ownKnob Tryz.prog.godebug=none:=by kernel_rfl
theorem zFQ:laidOutB Tryz.prog=true:=by kernel_rfl
section
variable {H:Type} {enc:TypeId × Value→H} {P:Program}
theorem qF (hl:laidOutB P=true) {W W':World} {sp:Nat→Bool}:∀ (ts:List TypeId) (vs:List Value) (ds:List (DataW H)) (ps:List MemPlace),
  (∀ t ∈ ts,P.readableRec t=true∧t < P.types.size)→DataW.TrodAll enc P W 0 (fun _=>true) true ts vs ds ps→(∀ x ∈ ps,W.sameAt W' x)→(∀ x ∈ ps,sp x.block=true)→DataW.TrodAll enc P W' 0 sp true ts vs ds ps
 |[],vs,ds,ps,_,h,_,_=>by
  obtain ⟨rfl,rfl,rfl⟩:=trodAll_nil h
  exact trodAll_mk0
 |t::ts,vs,ds,ps,ht,h,hs,hp=>by
  obtain ⟨v,vs',d,ds',p,q,rfl,rfl,rfl,h0,r0⟩:=trodAll_cons h
  have htt:=ht t (by simp)
  exact trodAll_cons_mk (WideElems.Trod_stays hl htt.1 htt.2 h0 (fun x hx=>hs x (by simp [hx])) (fun x hx=>hp x (by simp [hx])))
   (qF hl ts vs' ds' q (fun t ht'=>ht t (by simp [ht'])) r0 (fun x hx=>hs x (by simp [hx])) (fun x hx=>hp x (by simp [hx])))
theorem zIW (hl:laidOutB P=true) {f:Func} {s:ChangeSpec} {T:TypeId} (hv:s.vars = []) (hr:f.resultTypes = #[T]) (hT:P.underlying T=some .bool) (hp:∀ t ∈ f.params.toList,P.readableRec t=true∧t < P.types.size)
  {W W':World} {args:Array Value} {ds gs:List (DataW H)} {before:List MemPlace} (hW:DataW.Whole enc P f.params.toList s.vars false W args.toList ds gs before)
  (hs:s.fn H (ds++gs)={ results := [.lit (.bool true)],args:=ds }) (hb:Below W.heap.size W W'):s.post enc P f false true false false W args (.bool true) W':=by
 have hlt:∀ p ∈ before,p.block < W.heap.size:=fun p hp=>hW.lt p hp
 have hW':=hW
 obtain ⟨p,q,hA,hV,hbf,_,_⟩:=hW
 rw [hv] at hV
 obtain ⟨rfl,rfl⟩:=trodVars_none hV
 rw [List.append_nil] at hbf
 obtain rfl:before=p:=hbf
 refine ⟨ds,[],before,[],before,[],hW',?_,?_,?_,World.keptBut_mono (fun p hp=>⟨hp,.inr (.inl hp)⟩) (hb.frame (· ∈ before)),fun h=>by cases h⟩
 ·rw [hs,hr]
  exact trodAll_mk1 (shut_bool hT true)
 ·rw [hs]
  exact qF hl _ _ _ _ hp hA (fun x hx=>hb.same (hlt x hx)) (fun x hx=>by simpa using hlt x hx)
 ·rw [hs,hv]
  rfl
end
section
variable {H:Type} {enc:TypeId × Value→H} {P:Program} {w:World} {base:Nat} {spare:Nat→Bool} {held:Bool}
theorem hJ {e:TypeId} {n:Nat} {c:Value} (he:P.underlying e=some .string) (h:∃ y,DataW.trod enc P w base spare held n e [c]=some y):∃ s:Str,c=sv s∧s.Ok:=by
 obtain ⟨y,h⟩:=h
 obtain ⟨s,h1,_,h3⟩:=DataW.trod_string he h
 refine ⟨s.data.toList,(List.cons.inj h1).1.trans ?_,?_⟩
 ·show Value.string s=Value.string ⟨s.data.toList.toArray⟩
  rw [Array.toArray_toList]
 have hz:s.size=s.data.toList.length:=Array.length_toList.symm
 unfold maxLen at h3
 show s.data.toList.length≤9223372036854775807
 omega
theorem nC {e:TypeId} {n:Nat} {c:Value} {k:IntKind} (he:P.underlying e=some (.int k)) (h:∃ y,DataW.trod enc P w base spare held n e [c]=some y):∃ x:Int,c=.int k x∧(Lit.int k x).wf=true:=by
 obtain ⟨y,h⟩:=h
 obtain ⟨x,h1,_,h3⟩:=DataW.trod_int he h
 exact ⟨x,(List.cons.inj h1).1,h3⟩
end
theorem zEh {A B C:Type} {o:Option (List A × List B × C)} (h:o.map (fun x=>x.2.1.isEmpty)=some true):∃ ds places,o=some (ds,[],places):=by
 match o,h with
 |some (ds,[],places),_=>exact ⟨ds,places,rfl⟩
theorem cB {a b:Bool} (h1:a=true) (h2:b=true):(a && b)=true:=by rw [h1,h2];rfl
section
variable {P:Program} {f:FuncId} {fn:Func} {s:ChangeSpec} {c:OpenClaim}
theorem zHh (h1:c.wf (OpenSpec.ofChange s)=true) (h2:laidOutB P=true) (h3:mapsRowed P=true) (h4:fn.params.all (P.readableRec ·)=true) (h5:namedTie P c.named s.vars=true) (h6:(c.stops == [])=true) (h7:(P.stops == [])=true) (h8:(c.knobs == [])=true) (h9:(P.stopKnobs == [])=true)
  (h10:(c.inPlace == P.inPlace f)=true) (h11:(c.unfollowed == P.unfollowed f)=true) (h12:(c.recurses == P.recurses f)=true) (h13:(c.named == P.varsNamed f)=true)
  (h14:(c.maps == (fn.params.toList++s.plain.varTypes P).any (P.mapsRec ·))=true) (h15:(c.ifaces == (fn.params.toList++s.plain.varTypes P).any (P.ifacesRec ·))=true) (h16:(c.mapsOut == P.mapsAmong fn.resultTypes.toList)=true)
  (h17:(c.loops == (fn.params.toList++s.plain.varTypes P).any (P.loopsFrom ·))=true) (h18:(c.wideKeys == (fn.params.toList++s.plain.varTypes P++fn.resultTypes.toList).any (P.wideKeysFrom ·))=true)
  (h19:s.vars.all (P.varReadable ·)=true) (h20:fn.resultTypes.all (fun t=>P.readableRec t && decide (t < P.types.size))=true) (h21:(c.ifacesOut == fn.resultTypes.toList.any (P.ifacesRec ·))=true) (h22:(c.loopsOut == fn.resultTypes.toList.any (P.loopsFrom ·))=true) (h23:(c.plainKeys == P.plainKeys)=true) (h24:c.shortTexts.isNone=true) (h25:P.stopsHeard=true) (h26:P.mayEnter=true) (h27:(c.lifted == P.liftsFinal)=true) (h28:(P.make == some c.make)=true) (h29:(c.kinds == (if c.domain.isEmpty then [] else fn.params.toList.map fun t=>match P.underlying t with|some (.int k)=>some k|_=>none))=true) (h30:(c.pinned == c.pinnedBy)=true)
  (h31:(c.veiled == (fn.params.toList++s.plain.varTypes P++fn.resultTypes.toList).any (P.veiledRec ·))=true) (h32:c.veiledFits P fn.params.toList (fn.params.toList++s.plain.varTypes P++fn.resultTypes.toList)=true):joinedFacts P f fn s c=true:=by
 exact cB (cB (cB (cB (cB (cB (cB (cB (cB (cB (cB (cB (cB (cB (cB (cB (cB (cB (cB (cB (cB (cB (cB (cB (cB (cB (cB (cB (cB (cB (cB (h1) h2) h3) h4) h5) h6) h7) h8) h9) h10) h11) h12) h13) h14) h15) h16) h17) h18) h19) h20) h21) h22) h23) h24) h25) h26) h27) h28) h29) h30) h31) h32
end
theorem zK6:mapsRowed Tryz.pinned.checked.prog=true:=by kernel_rfl
theorem zIm:(Tryz.pinned.checked.prog.stops == [])=true:=by kernel_rfl
theorem zIo:(Tryz.pinned.checked.prog.stopKnobs == [])=true:=by kernel_rfl
theorem zIp:Tryz.pinned.checked.prog.stopsHeard=true:=by kernel_rfl
theorem zIq:Tryz.pinned.checked.prog.mayEnter=true:=by kernel_rfl
theorem zIn:true=Tryz.pinned.checked.prog.looks []:=by kernel_rfl
end Go.Proofs.YtnjgoldinaffgaaGreatDoor
