/- What a map fills, in order; the law's small example. -/
import Derived.Test.YtnjgoldinaffgaaGreatDoorY32
namespace Go.Proofs.YtnjgoldinaffgaaGreatDoor
open _root_.Go.Proofs.Tryz
set_option linter.unusedSimpArgs false
set_option linter.unusedVariables false
open Go.RowKit Go.Sort
set_option maxRecDepth 100000
set_option maxHeartbeats 4000000
def zAH (ks:List Str):List Str:=ks.mergeSort fun x y=>decide (x≤y)
theorem zEo (ks:List Str) (hn:ks.Nodup) (hl:∀ s ∈ ks,jI s) (hc:ks.length≤1000):SemO Tryz.prog 50 (.mp .str (jP ks)) [] (.sl 0 1 ((zAH ks).map vF)) none:=by
  refine ⟨inferInstance,rfl,(fun d' hd=>nomatch hd),fun S w v0 vs hw hr hvl hf => ?_⟩
  obtain rfl:vs = []:=List.eq_nil_of_length_eq_zero hvl
  obtain ⟨b,clock,ents,rfl,hb,hh,he,hk⟩:=hr.mp_inv
  clear hf hvl
  have hkl:ents.toList.map (·.key)=ks.map fun s=>Value.string ⟨s.toArray⟩:=by
    have:=congrArg (List.map Prod.fst) he.1
    rw [List.map_map] at this
    unfold jP at this
    rw [List.map_map] at this
    exact this
  obtain ⟨D0,hown,hper,hsz⟩:=zFG (k:=9) underlying9 hh he.2 (keys:=ks) hkl hn hl hc
  go_enter func50,ntmps50
  repeat' (
      first
        |((with_reducible apply wp_seq_k);intro K hK)
        |(simp only [Exit.then,Exit.inBlock,↓reduceIte,Nat.reduceEqDiff])
        |(with_reducible first|apply wp_block|apply wp_skip|apply wp_exit)
        |((with_reducible apply wp_cond_true);exact rfl)
        |((with_reducible apply wp_cond_false);exact rfl)
        |(((with_reducible apply wp_cond_split);exact rfl)<;>intro hb<;>(try simp only [aA] at hb)<;>(try (have hbl:=And.left hb;have hbr:=And.right hb))<;>(try (have hbll:=And.left hbl;have hblr:=And.right hbl))<;>(try first|contradiction|exact (bff hb (by assumption)).elim|exact (bft hb (by assumption)).elim|(exfalso;omega)))
        | ((with_reducible apply (wp_region_lit (id:=0)))
           ((apply dA);exact jF;(try simp only [SS,Nat.reduceAdd]))
           (apply wpList_nil))
        | ((fail_if_success with_reducible first|apply aQ|apply dS|apply zLo|apply fM|apply dR);go_step))
  with_reducible apply (wp_region_lit (id:=1))
  (apply bT);exact jF;(try simp only [SS,Nat.reduceAdd])
  haveI:Enters Tryz.prog 80:=⟨⟨_,func80,by kernel_rfl,by kernel_rfl⟩⟩
  haveI:Enters Tryz.prog 39:=⟨⟨_,func39,by kernel_rfl,by kernel_rfl⟩⟩
  refine pW (al := [.map (some b)]) rfl ((callsIn_wide.1 (zBS (some b) w)).mono fun e w' h => ?_)
  obtain ⟨rfl,rfl⟩:=h
  (try simp only [SS,Nat.reduceAdd])
  refine pW (al := [.func (.func 124) #[] #[.pointer (some ⟨w.heap.size,0,none⟩)]]) rfl ((callsIn_wide.1 (lH b _ D0 _ w hown (by rw [hsz];unfold maxLen;omega) (by rw [hsz];omega))).mono fun e w17 h => ?_)
  obtain ⟨vK,ss,rfl,hperm,hrow,_,hbel⟩:=h
  have hx17:Ext w w17:=(Ext.alloc _ _).trans hbel
  have hks:(ss.mergeSort fun x y=>decide (x≤y))=zAH ks:=zAG hn (hperm.trans hper)
  have hnl:ss.length=(zAH ks).length:=by rw [← hks,List.length_mergeSort]
  rw [hks] at hrow
  have hkz:=zFR hw (Ext.alloc w _).sizeOf hrow hnl
  (try simp only [SS,Nat.reduceAdd])
  (apply dA);exact jF;(try simp only [SS,Nat.reduceAdd])
  apply wpList_nil
  repeat' (first|(with_reducible first|apply wp_block|apply wp_skip|apply wp_exit)|((with_reducible apply wp_seq_k);intro K hK)|simp only [Exit.then,Exit.inBlock,↓reduceIte,Nat.reduceEqDiff]|((with_reducible apply wp_cond_true);exact rfl)|((with_reducible apply wp_cond_false);exact rfl)|((fail_if_success with_reducible apply aQ);go_step))
  have p17:=PT.ext' hw hx17
  refine bodyPost_ret (v:=vK) ?_ rfl ?_
  · have hres:f50.results = #[.tmp 2]:=rfl
    simp [results,hres,Act.put]
  · exact ⟨vK,S,rfl,p17.wf,p17.trans,.fz hkz,fun d' hd=>nomatch hd⟩
def zNc:Str := [79,82,68]
def zGK:Str := [79,82,68,46,49,46,49]
def m0:Mp:=⟨[97],[],[.mk 1 zNc [⟨1,1,1,[120],[],[]⟩] [] [] (.mk 0 [] [] [] 0 0) []]⟩
theorem zIN:MStep.fillsL [] m0.steps [] = [zGK]:=by kernel_rfl
theorem zNJ:m0.err=0:=by kernel_rfl
theorem zBk (m:Mp) (ht:m.Txt) (h0:m.err=0) (d:Nat) (hd:zGp d m.steps) (hB:1001 * d≤1000000000000) (ks:List Str) (hks:MStep.fillsL [] m.steps []=ks) (hn:ks.Nodup) (hl:∀ s ∈ ks,jI s) (hc:ks.length≤1000):
  Sem Tryz.prog 21 [.agg m.row] (.tup [.sl 0 1 ((zAH ks).map vF),.int .i64 0]):=by
 have h1:=fU m ht
 rw [h0] at h1
 have h2:=zE7 d m.steps [] [] hd (by simpa using hB)
 rw [hks] at h2
 have h3:=zEo ks hn hl hc
 unfold Mp.row at h1 ⊢
 refine si [1000013,1000035,1000037,1000049,1000050,1000069,1000070,1000116,1000157] func21 ?_
 repeat'((conv=>whnf);first|(try(first|apply eN|apply eI|apply eC);conv=>whnf);apply sD;(focus first|exact gx h1|(refine gx (fU ?_ ?_)<;>exact pre)|exact bV)|((with_reducible apply CallO.go);(conv=>whnf);apply sD;(focus first|(apply aU (h2);all_goals exact eX)|(apply aU (h3);all_goals exact eX)))|apply rR|apply rE|apply rH| (apply cD<;>intro hb<;>(try simp only[aA]at hb)<;>try exact aM))
 all_goals try exact false
 exact aT
theorem zNI:m0.Txt:=by
 refine ⟨by simp [m0,jI],by simp [m0],fun s hs => ?_⟩
 obtain rfl:s=_:=by simpa [m0] using hs
 refine .mk (by unfold jI;decide) (fun f hf => ?_) (by unfold jI;decide) (by unfold jI;decide) (.mk (by simp) (by simp) (by simp)) (by simp)
 obtain rfl:f=_:=by simpa using hf
 exact ⟨by unfold jI;decide,by unfold jI;decide,by unfold jI;decide⟩
theorem fills0:Sem Tryz.prog 21 [.agg [.str [97],.sl 0 2 [],.sl 0 12 [[.int .i64 1,.str zNc,.sl 0 6 [[.int .i64 1,.int .i64 1,.int .i64 1,.str [120],.str [],.str []]],.str [],.str [],.int .i64 0,.sl 0 6 [],.str [],.sl 0 1 [],.int .i64 0,.int .i64 0,.sl 0 12 []]]]] (.tup [.sl 0 1 [[.str zGK]],.int .i64 0]):=by
 have h:=zBk m0 zNI zNJ 1 (by
  intro s hs
  obtain rfl:s=_:=by simpa [m0] using hs
  refine ⟨by decide,by decide,fun f hf => ?_,rfl⟩
  obtain rfl:f=_:=by simpa [MStep.flds] using hf
  exact ⟨⟨by decide,by decide⟩,⟨by decide,by decide⟩⟩) (by omega) [zGK] zIN (by simp) (fun s hs=>by rw [List.mem_singleton.1 hs];unfold jI;decide) (by decide)
 have e1:zAH [zGK] = [zGK]:=by simp [zAH]
 rw [e1] at h
 have e2:m0.row = [.str [97],.sl 0 2 [],.sl 0 12 [[.int .i64 1,.str zNc,.sl 0 6 [[.int .i64 1,.int .i64 1,.int .i64 1,.str [120],.str [],.str []]],.str [],.str [],.int .i64 0,.sl 0 6 [],.str [],.sl 0 1 [],.int .i64 0,.int .i64 0,.sl 0 12 []]]]:=by
  unfold Mp.row m0
  simp only [List.map_cons,List.map_nil]
  rw [MStep.row_mk]
  rfl
 rw [e2] at h
 exact h
theorem Sem.weak {P:Program} {f:Nat} {args args':List D} {d:D} (h:Sem P f args d) (hl:DLes args' args):Sem P f args' d:=
 ⟨h.1,h.2.1,fun S w vs hw hlen hr=>h.2.2 S w vs hw (by rw [hlen,hl.len]) fun i d v hd hv=>by
  obtain ⟨d',hd'⟩:=iK hl.len hd
  exact (hr i d' v hd' hv).le (hl.get hd' hd)⟩
theorem zY:Sem Tryz.prog 8 [] (.bool true):=by
 have h:=fills0.weak (args' := [.agg [.str [97],.nil,.sl 0 12 [[.int .i64 1,.str [79,82,68],.sl 0 6 [[.int .i64 1,.int .i64 1,.int .i64 1,.str [120],.str [],.str []]],.str [],.str [],.int .i64 0,.nil,.str [],.nil,.int .i64 0,.int .i64 0,.nil]]]]) (by
  repeat' (first|exact DLe.refl _|exact DLe.nil _ _|exact DLes.nil|exact LLe.refl []|apply dC|apply aB|apply zDQ|apply LLe.cons))
 unfold zGK at h
 refine si [1000013,1000035,1000037,1000049,1000050,1000069,1000070,1000116,1000157] func8 ?_
 repeat'((conv=>whnf);first|(try(first|apply eN|apply eI|apply eC);conv=>whnf);apply sD;(focus(try intro hc;have hc0:=hc;(try simp only[aA]at hc);try refine aE ?_);first|exact gx h|(refine gx (zBk ?_ ?_ ?_ ?_ ?_ ?_ ?_ ?_ ?_ ?_ ?_)<;>exact pre)|(refine gx (fills0 )<;>exact pre)|exact aC)|apply rR|apply rE|apply rH| (apply cD<;>intro hb<;>(try simp only[aA]at hb)<;>try exact aM))
 all_goals try exact false
 exact aT
end Go.Proofs.YtnjgoldinaffgaaGreatDoor
