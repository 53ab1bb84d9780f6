/- Paths: the program reads one (walks). -/
import Derived.Test.YtindehjiaknokaaGreatDoorY16
namespace Go.Proofs.YtindehjiaknokaaGreatDoor
set_option linter.unusedSimpArgs false
set_option linter.unusedVariables false
open Go.RowKit
set_option maxRecDepth 100000
set_option maxHeartbeats 2000000
def idl80_7:List (List Bool) := [[b0,b0,b0,b0,b0,b0,b0,b0],[b1,b0,b0,b0,b0,b0,b0,b0],[b0,b1,b0,b0,b0,b0,b0,b0],[b0,b0,b1,b0,b0,b0,b0,b0],[b1,b1,b0,b0,b0,b0,b0,b0],[b1,b0,b1,b0,b0,b0,b0,b0],[b1,b0,b0,b0,b0,b1,b0,b0],[b0,b1,b1,b0,b0,b0,b0,b0],[b0,b0,b1,b1,b0,b0,b0,b0],[b1,b1,b1,b0,b0,b0,b0,b0],[b1,b1,b0,b0,b0,b1,b0,b0],[b1,b0,b1,b1,b0,b0,b0,b0],[b1,b0,b1,b0,b0,b1,b0,b0],[b1,b0,b0,b0,b0,b1,b1,b0],[b0,b1,b1,b1,b0,b0,b0,b0],[b1,b1,b1,b1,b0,b0,b0,b0],[b1,b1,b1,b0,b0,b1,b0,b0],[b1,b1,b0,b0,b0,b1,b1,b0],[b1,b0,b1,b1,b0,b1,b0,b0],[b1,b0,b1,b0,b0,b1,b1,b0],[b0,b1,b1,b1,b1,b0,b0,b0],[b1,b1,b1,b1,b1,b0,b0,b0],[b1,b1,b1,b1,b0,b1,b0,b0],[b1,b1,b1,b0,b0,b1,b1,b0],[b1,b0,b1,b1,b0,b1,b1,b0],[b1,b1,b1,b1,b1,b1,b0,b0],[b1,b1,b1,b1,b0,b1,b1,b0],[b1,b1,b1,b1,b1,b1,b1,b0],[b1,b1,b1,b1,b1,b1,b1,b1]]
abbrev Wy:=List Str × Str × Int × Int
def Wy.row (w:Wy):List D := [.sl 0 1 (w.1.map fun s => [.str s]),.str w.2.1,.int .i64 w.2.2.1,.int .i64 w.2.2.2]
def outR (n m:Int):Bool:=decide (n < 1) || decide (m < n)
def numB (s:Str) (m:Int):Bool:=(numN s).2 && !outR (numN s).1 m
def tailN (ns:List Str):List Str→Wy × Bool
 |[a]=>if isTagB a=true then ((ns,a,0,0),true) else ((ns,[],0,0),false)
 |[a,b]=>if isTagB a=false then ((ns,[],0,0),false) else if numB b 50=true then ((ns,a,(numN b).1,0),true) else ((ns,a,0,0),false)
 |[a,b,c]=>if isTagB a=false then ((ns,[],0,0),false) else if numB b 50=false then ((ns,a,0,0),false) else if numB c 20=true then ((ns,a,(numN b).1,(numN c).1),true) else ((ns,a,(numN b).1,0),false)
 |_=>((ns,[],0,0),false)
theorem outR_sem (n m:Int):Sem Tryz.prog 51 [.int .i64 n,.int .i64 1,.int .i64 m] (.bool (outR n m)):=outsideK_sem n 1 m
theorem way_none (p:Str) (hp:p.length≤1000) (hi:Lib.lastIndexByte ⟨p.toArray⟩ 47 = -1):Sem Tryz.prog 80 [.str p] (.tup [.agg (tailN [] (partsAt 46 p)).1.row,.bool (tailN [] (partsAt 46 p)).2]):=by
 have h1:=lastIndex_sem p 47 (by omega)
 rw [show ((47:UInt8).toNat:Int)=47 from rfl,hi] at h1
 have h0:True:=trivial
 have hq:p.length≤1000:=hp
 have h2:=(split_sem p 46 (by omega)).frozen
 have h3:∀ a ∈ partsAt 46 p,Sem Tryz.prog 102 [.str a] (.bool (isTagB a)):=fun a ha=>isTag_sem a (by have:=part_le ha;omega)
 have h4:∀ a ∈ partsAt 46 p,Sem Tryz.prog 103 [.str a,.int .i64 3] (.tup [.int .i64 (numN a).1,.bool (numN a).2]):=fun a ha=>Number_sem a (by have:=part_le ha;omega)
 have h5:=parts_ne (c:=46) p
 have h6:=parts_len (c:=46) p
 generalize partsAt 46 p=l at h2 h3 h4 h5 h6 ⊢
 generalize hr:tailN [] l=r
 rcases l with _|⟨a,_|⟨b,_|⟨c,_|⟨d,t⟩⟩⟩⟩
 ·exact absurd rfl h5
 ·have ha:=h3 a (by simp)
  rw [tailN] at hr
  generalize isTagB a=q at ha hr
  refine si [2,4,5000007] Tryz.func80 ?_
  repeat'((conv=>whnf);first|((with_reducible apply DrawI.at 28 idl80_7);exact rfl;kernel_rfl)|with_reducible apply ExE.go|((with_reducible apply EqF.mk);exact rfl)|with_reducible apply AndI.mk|with_reducible exact trivial|(try(first|apply eN|apply eI|apply eC);conv=>whnf);apply sD;(focus(try intro hc;have hc0:=hc;(try simp only[SPLT]at hc);try refine and0 ?_);first|exact gx h1|exact gx h2|exact gx ha|(refine gx (outR_sem ?_ ?_)<;>exact pre)|(refine gx (lastIndex_sem ?_ ?_ ?_)<;>exact pre)|(refine gx (namesOf_sem ?_ ?_)<;>exact pre)|(refine gx (split_sem ?_ ?_ ?_)<;>exact pre)|(refine gx (isTag_sem ?_ ?_)<;>exact pre)|(refine gx (Number_sem ?_ ?_)<;>exact pre)|(refine gx (outsideK_sem ?_ ?_ ?_)<;>exact pre)|exact sideG)|(first|apply dG|apply kB);kernel_rfl|apply rR|apply rE|apply rH| (apply cD<;>intro hb<;>(try simp only[SPLT]at hb)<;>try exact noB))
  all_goals try exact false
  ·rw [if_neg (by simp_all)] at hr
   subst hr
   repeat' ((conv=>whnf);first|exact endR|with_reducible first|apply And.intro|apply oR|apply oN|apply dC)
   all_goals (conv=>whnf)
   simp only [Wy.row,List.map_nil]
   (first|refine rle_agg ?_|refine dle_agg ?_|skip)
   repeat' (first|exact endF|exact endF2|with_reducible apply dC|with_reducible apply dle_agg)
  ·rw [if_pos (by simp_all)] at hr
   refine loop_go (M:=fun t=>mem t [2,4,5000007]) hT hM (fun _:Unit => [(54,.int .i64 0),(4,.obj [.nil,.str a,.int .i64 0,.int .i64 0])]) (fun _=>True) (fun _=>0) (()) ?_ ?_ ?_
   ·exact finF
   ·exact trivial
   ·rintro _ _
    repeat'((conv=>whnf);first|((with_reducible apply DrawI.at 28 idl80_7);exact rfl;kernel_rfl)|with_reducible apply ExE.go|((with_reducible apply EqF.mk);exact rfl)|with_reducible apply AndI.mk|with_reducible exact trivial|(try(first|apply eN|apply eI|apply eC);conv=>whnf);apply sD;(focus(try intro hc;have hc0:=hc;(try simp only[SPLT]at hc);try refine and0 ?_);first|(refine gx (outR_sem ?_ ?_)<;>exact pre)|(refine gx (lastIndex_sem ?_ ?_ ?_)<;>exact pre)|(refine gx (namesOf_sem ?_ ?_)<;>exact pre)|(refine gx (split_sem ?_ ?_ ?_)<;>exact pre)|(refine gx (isTag_sem ?_ ?_)<;>exact pre)|(refine gx (Number_sem ?_ ?_)<;>exact pre)|(refine gx (outsideK_sem ?_ ?_ ?_)<;>exact pre)|exact sideG)|(first|apply dG|apply kB);kernel_rfl|apply rR|apply rE|apply rH| (apply cD<;>intro hb<;>(try simp only[SPLT]at hb)<;>try exact noB))
    all_goals try exact false
    subst hr
    repeat' ((conv=>whnf);first|exact endR|with_reducible first|apply And.intro|apply oR|apply oN|apply dC)
    all_goals (conv=>whnf)
    simp only [Wy.row,List.map_nil]
    (first|refine rle_agg ?_|refine dle_agg ?_|skip)
    repeat' (first|exact endF|exact endF2|with_reducible apply dC|with_reducible apply dle_agg)
 ·have ha:=h3 a (by simp)
  have hb1:=h4 b (by simp)
  rw [tailN,numB] at hr
  generalize isTagB a=q at ha hr
  generalize numN b=nb at hb1 hr
  obtain ⟨n,o⟩:=nb
  dsimp only at hb1 hr
  have hO:=outR_sem n 50
  generalize outR n 50=u at hO hr
  refine si [2,4,5000007] Tryz.func80 ?_
  repeat'((conv=>whnf);first|((with_reducible apply DrawI.at 28 idl80_7);exact rfl;kernel_rfl)|with_reducible apply ExE.go|((with_reducible apply EqF.mk);exact rfl)|with_reducible apply AndI.mk|with_reducible exact trivial|(try(first|apply eN|apply eI|apply eC);conv=>whnf);apply sD;(focus(try intro hc;have hc0:=hc;(try simp only[SPLT]at hc);try refine and0 ?_);first|exact gx h1|exact gx h2|exact gx ha|(refine gx (outR_sem ?_ ?_)<;>exact pre)|(refine gx (lastIndex_sem ?_ ?_ ?_)<;>exact pre)|(refine gx (namesOf_sem ?_ ?_)<;>exact pre)|(refine gx (split_sem ?_ ?_ ?_)<;>exact pre)|(refine gx (isTag_sem ?_ ?_)<;>exact pre)|(refine gx (Number_sem ?_ ?_)<;>exact pre)|(refine gx (outsideK_sem ?_ ?_ ?_)<;>exact pre)|exact sideG)|(first|apply dG|apply kB);kernel_rfl|apply rR|apply rE|apply rH| (apply cD<;>intro hb<;>(try simp only[SPLT]at hb)<;>try exact noB))
  all_goals try exact false
  ·rw [if_pos (by simp_all)] at hr
   subst hr
   repeat' ((conv=>whnf);first|exact endR|with_reducible first|apply And.intro|apply oR|apply oN|apply dC)
   all_goals (conv=>whnf)
   simp only [Wy.row,List.map_nil]
   (first|refine rle_agg ?_|refine dle_agg ?_|skip)
   repeat' (first|exact endF|exact endF2|with_reducible apply dC|with_reducible apply dle_agg)
  ·rw [if_neg (by simp_all)] at hr
   refine loop_go (M:=fun t=>mem t [2,4,5000007]) hT hM (fun i:Nat => [(54,.int .i64 i),(4,.obj [.nil,.str a,.int .i64 (if i=0 then 0 else n),.int .i64 0])]) (fun i=>i≤1∧(1≤i→(o && !u)=true)) (fun i=>1 - i) (0) ?_ ?_ ?_
   ·exact finF
   ·exact ⟨by omega,by omega⟩
   ·rintro i ⟨hi1,hi2⟩
    rcases Nat.lt_or_ge i 1 with hz|hz
    ·obtain rfl:i=0:=by omega
     repeat'((conv=>whnf);first|((with_reducible apply DrawI.at 28 idl80_7);exact rfl;kernel_rfl)|with_reducible apply ExE.go|((with_reducible apply EqF.mk);exact rfl)|with_reducible apply AndI.mk|with_reducible exact trivial|(try(first|apply eN|apply eI|apply eC);conv=>whnf);apply sD;(focus(try intro hc;have hc0:=hc;(try simp only[SPLT]at hc);try refine and0 ?_);first|(exact ⟨by omega,rfl⟩)|exact gx hb1|exact gx hO|(refine gx (outR_sem ?_ ?_)<;>exact pre)|(refine gx (lastIndex_sem ?_ ?_ ?_)<;>exact pre)|(refine gx (namesOf_sem ?_ ?_)<;>exact pre)|(refine gx (split_sem ?_ ?_ ?_)<;>exact pre)|(refine gx (isTag_sem ?_ ?_)<;>exact pre)|(refine gx (Number_sem ?_ ?_)<;>exact pre)|(refine gx (outsideK_sem ?_ ?_ ?_)<;>exact pre)|exact sideG)|(first|apply dG|apply kB);kernel_rfl|apply rR|apply rE|apply rH| (apply cD<;>intro hb<;>(try simp only[SPLT]at hb)<;>try exact noB))
     all_goals try exact false
     ·rw [if_neg (by (first|(revert hb;cases o<;>cases u<;>decide)|(cases o<;>cases u<;>simp_all)))] at hr
      subst hr
      repeat' ((conv=>whnf);first|exact endR|with_reducible first|apply And.intro|apply oR|apply oN|apply dC)
      all_goals (conv=>whnf)
      simp only [Wy.row,List.map_nil]
      (first|refine rle_agg ?_|refine dle_agg ?_|skip)
      repeat' (first|exact endF|exact endF2|with_reducible apply dC|with_reducible apply dle_agg)
     ·refine ⟨1,⟨by omega,fun _=>by rw [(‹o=true∧u=false›:o=true∧u=false).1,(‹o=true∧u=false›:o=true∧u=false).2];rfl⟩,by omega,?_⟩
      exact finF
    ·obtain rfl:i=1:=by omega
     rw [if_pos (hi2 (by omega))] at hr
     repeat'((conv=>whnf);first|((with_reducible apply DrawI.at 28 idl80_7);exact rfl;kernel_rfl)|with_reducible apply ExE.go|((with_reducible apply EqF.mk);exact rfl)|with_reducible apply AndI.mk|with_reducible exact trivial|(try(first|apply eN|apply eI|apply eC);conv=>whnf);apply sD;(focus(try intro hc;have hc0:=hc;(try simp only[SPLT]at hc);try refine and0 ?_);first|(refine gx (outR_sem ?_ ?_)<;>exact pre)|(refine gx (lastIndex_sem ?_ ?_ ?_)<;>exact pre)|(refine gx (namesOf_sem ?_ ?_)<;>exact pre)|(refine gx (split_sem ?_ ?_ ?_)<;>exact pre)|(refine gx (isTag_sem ?_ ?_)<;>exact pre)|(refine gx (Number_sem ?_ ?_)<;>exact pre)|(refine gx (outsideK_sem ?_ ?_ ?_)<;>exact pre)|exact sideG)|(first|apply dG|apply kB);kernel_rfl|apply rR|apply rE|apply rH| (apply cD<;>intro hb<;>(try simp only[SPLT]at hb)<;>try exact noB))
     all_goals try exact false
     subst hr
     repeat' ((conv=>whnf);first|exact endR|with_reducible first|apply And.intro|apply oR|apply oN|apply dC)
     all_goals (conv=>whnf)
     simp only [Wy.row,List.map_nil]
     (first|refine rle_agg ?_|refine dle_agg ?_|skip)
     repeat' (first|exact endF|exact endF2|with_reducible apply dC|with_reducible apply dle_agg)
 ·have ha:=h3 a (by simp)
  have hb1:=h4 b (by simp)
  have hb2:=h4 c (by simp)
  rw [tailN,numB,numB] at hr
  generalize isTagB a=q at ha hr
  generalize numN b=nb at hb1 hr
  generalize numN c=nc at hb2 hr
  obtain ⟨n,o⟩:=nb
  obtain ⟨m,x⟩:=nc
  dsimp only at hb1 hb2 hr
  have hO:=outR_sem n 50
  have hO2:=outR_sem m 20
  generalize outR n 50=u at hO hr
  generalize outR m 20=y at hO2 hr
  refine si [2,4,5000007] Tryz.func80 ?_
  repeat'((conv=>whnf);first|((with_reducible apply DrawI.at 28 idl80_7);exact rfl;kernel_rfl)|with_reducible apply ExE.go|((with_reducible apply EqF.mk);exact rfl)|with_reducible apply AndI.mk|with_reducible exact trivial|(try(first|apply eN|apply eI|apply eC);conv=>whnf);apply sD;(focus(try intro hc;have hc0:=hc;(try simp only[SPLT]at hc);try refine and0 ?_);first|exact gx h1|exact gx h2|exact gx ha|(refine gx (outR_sem ?_ ?_)<;>exact pre)|(refine gx (lastIndex_sem ?_ ?_ ?_)<;>exact pre)|(refine gx (namesOf_sem ?_ ?_)<;>exact pre)|(refine gx (split_sem ?_ ?_ ?_)<;>exact pre)|(refine gx (isTag_sem ?_ ?_)<;>exact pre)|(refine gx (Number_sem ?_ ?_)<;>exact pre)|(refine gx (outsideK_sem ?_ ?_ ?_)<;>exact pre)|exact sideG)|(first|apply dG|apply kB);kernel_rfl|apply rR|apply rE|apply rH| (apply cD<;>intro hb<;>(try simp only[SPLT]at hb)<;>try exact noB))
  all_goals try exact false
  ·rw [if_pos (by simp_all)] at hr
   subst hr
   repeat' ((conv=>whnf);first|exact endR|with_reducible first|apply And.intro|apply oR|apply oN|apply dC)
   all_goals (conv=>whnf)
   simp only [Wy.row,List.map_nil]
   (first|refine rle_agg ?_|refine dle_agg ?_|skip)
   repeat' (first|exact endF|exact endF2|with_reducible apply dC|with_reducible apply dle_agg)
  ·rw [if_neg (by simp_all)] at hr
   refine loop_go (M:=fun t=>mem t [2,4,5000007]) hT hM (fun i:Nat => [(54,.int .i64 i),(4,.obj [.nil,.str a,.int .i64 (if i=0 then 0 else n),.int .i64 (if i=2 then m else 0)])]) (fun i=>i≤2∧(1≤i→(o && !u)=true)∧(2≤i→(x && !y)=true)) (fun i=>2 - i) (0) ?_ ?_ ?_
   ·exact finF
   ·exact ⟨by omega,by omega,by omega⟩
   ·rintro i ⟨hi1,hi2,hi3⟩
    rcases Nat.lt_or_ge i 1 with hz|hz
    ·obtain rfl:i=0:=by omega
     repeat'((conv=>whnf);first|((with_reducible apply DrawI.at 28 idl80_7);exact rfl;kernel_rfl)|with_reducible apply ExE.go|((with_reducible apply EqF.mk);exact rfl)|with_reducible apply AndI.mk|with_reducible exact trivial|(try(first|apply eN|apply eI|apply eC);conv=>whnf);apply sD;(focus(try intro hc;have hc0:=hc;(try simp only[SPLT]at hc);try refine and0 ?_);first|(exact ⟨by omega,rfl⟩)|exact gx hb1|exact gx hO|(refine gx (outR_sem ?_ ?_)<;>exact pre)|(refine gx (lastIndex_sem ?_ ?_ ?_)<;>exact pre)|(refine gx (namesOf_sem ?_ ?_)<;>exact pre)|(refine gx (split_sem ?_ ?_ ?_)<;>exact pre)|(refine gx (isTag_sem ?_ ?_)<;>exact pre)|(refine gx (Number_sem ?_ ?_)<;>exact pre)|(refine gx (outsideK_sem ?_ ?_ ?_)<;>exact pre)|exact sideG)|(first|apply dG|apply kB);kernel_rfl|apply rR|apply rE|apply rH| (apply cD<;>intro hb<;>(try simp only[SPLT]at hb)<;>try exact noB))
     all_goals try exact false
     ·rw [if_pos (by (first|(revert hb;cases o<;>cases u<;>decide)|(cases o<;>cases u<;>simp_all)))] at hr
      subst hr
      repeat' ((conv=>whnf);first|exact endR|with_reducible first|apply And.intro|apply oR|apply oN|apply dC)
      all_goals (conv=>whnf)
      simp only [Wy.row,List.map_nil]
      (first|refine rle_agg ?_|refine dle_agg ?_|skip)
      repeat' (first|exact endF|exact endF2|with_reducible apply dC|with_reducible apply dle_agg)
     ·refine ⟨1,⟨by omega,fun _=>by rw [(‹o=true∧u=false›:o=true∧u=false).1,(‹o=true∧u=false›:o=true∧u=false).2];rfl,by omega⟩,by omega,?_⟩
      exact finF
    ·have hou:=hi2 (by omega)
     rw [if_neg (by revert hou;cases o<;>cases u<;>decide)] at hr
     rcases Nat.lt_or_ge i 2 with hz2|hz2
     ·obtain rfl:i=1:=by omega
      repeat'((conv=>whnf);first|((with_reducible apply DrawI.at 28 idl80_7);exact rfl;kernel_rfl)|with_reducible apply ExE.go|((with_reducible apply EqF.mk);exact rfl)|with_reducible apply AndI.mk|with_reducible exact trivial|(try(first|apply eN|apply eI|apply eC);conv=>whnf);apply sD;(focus(try intro hc;have hc0:=hc;(try simp only[SPLT]at hc);try refine and0 ?_);first|(exact ⟨by omega,rfl⟩)|exact gx hb2|exact gx hO2|(refine gx (outR_sem ?_ ?_)<;>exact pre)|(refine gx (lastIndex_sem ?_ ?_ ?_)<;>exact pre)|(refine gx (namesOf_sem ?_ ?_)<;>exact pre)|(refine gx (split_sem ?_ ?_ ?_)<;>exact pre)|(refine gx (isTag_sem ?_ ?_)<;>exact pre)|(refine gx (Number_sem ?_ ?_)<;>exact pre)|(refine gx (outsideK_sem ?_ ?_ ?_)<;>exact pre)|exact sideG)|(first|apply dG|apply kB);kernel_rfl|apply rR|apply rE|apply rH| (apply cD<;>intro hb<;>(try simp only[SPLT]at hb)<;>try exact noB))
      all_goals try exact false
      ·rw [if_neg (by (first|(revert hb;cases x<;>cases y<;>decide)|(cases x<;>cases y<;>simp_all)))] at hr
       subst hr
       repeat' ((conv=>whnf);first|exact endR|with_reducible first|apply And.intro|apply oR|apply oN|apply dC)
       all_goals (conv=>whnf)
       simp only [Wy.row,List.map_nil]
       (first|refine rle_agg ?_|refine dle_agg ?_|skip)
       repeat' (first|exact endF|exact endF2|with_reducible apply dC|with_reducible apply dle_agg)
      ·refine ⟨2,⟨by omega,fun _=>hou,fun _=>by rw [(‹x=true∧y=false›:x=true∧y=false).1,(‹x=true∧y=false›:x=true∧y=false).2];rfl⟩,by omega,?_⟩
       exact finF
     ·obtain rfl:i=2:=by omega
      rw [if_pos (hi3 (by omega))] at hr
      repeat'((conv=>whnf);first|((with_reducible apply DrawI.at 28 idl80_7);exact rfl;kernel_rfl)|with_reducible apply ExE.go|((with_reducible apply EqF.mk);exact rfl)|with_reducible apply AndI.mk|with_reducible exact trivial|(try(first|apply eN|apply eI|apply eC);conv=>whnf);apply sD;(focus(try intro hc;have hc0:=hc;(try simp only[SPLT]at hc);try refine and0 ?_);first|(refine gx (outR_sem ?_ ?_)<;>exact pre)|(refine gx (lastIndex_sem ?_ ?_ ?_)<;>exact pre)|(refine gx (namesOf_sem ?_ ?_)<;>exact pre)|(refine gx (split_sem ?_ ?_ ?_)<;>exact pre)|(refine gx (isTag_sem ?_ ?_)<;>exact pre)|(refine gx (Number_sem ?_ ?_)<;>exact pre)|(refine gx (outsideK_sem ?_ ?_ ?_)<;>exact pre)|exact sideG)|(first|apply dG|apply kB);kernel_rfl|apply rR|apply rE|apply rH| (apply cD<;>intro hb<;>(try simp only[SPLT]at hb)<;>try exact noB))
      all_goals try exact false
      subst hr
      repeat' ((conv=>whnf);first|exact endR|with_reducible first|apply And.intro|apply oR|apply oN|apply dC)
      all_goals (conv=>whnf)
      simp only [Wy.row,List.map_nil]
      (first|refine rle_agg ?_|refine dle_agg ?_|skip)
      repeat' (first|exact endF|exact endF2|with_reducible apply dC|with_reducible apply dle_agg)
 ·replace hr:((([]:List Str),([]:Str),(0:Int),(0:Int)),false)=r:=hr
  have ha:=h3 a (by simp)
  refine si [2,4,5000007] Tryz.func80 ?_
  repeat'((conv=>whnf);first|((with_reducible apply DrawI.at 28 idl80_7);exact rfl;kernel_rfl)|with_reducible apply ExE.go|((with_reducible apply EqF.mk);exact rfl)|with_reducible apply AndI.mk|with_reducible exact trivial|(try(first|apply eN|apply eI|apply eC);conv=>whnf);apply sD;(focus(try intro hc;have hc0:=hc;(try simp only[SPLT]at hc);try refine and0 ?_);first|exact gx h1|exact gx h2|exact gx ha|(refine gx (outR_sem ?_ ?_)<;>exact pre)|(refine gx (lastIndex_sem ?_ ?_ ?_)<;>exact pre)|(refine gx (namesOf_sem ?_ ?_)<;>exact pre)|(refine gx (split_sem ?_ ?_ ?_)<;>exact pre)|(refine gx (isTag_sem ?_ ?_)<;>exact pre)|(refine gx (Number_sem ?_ ?_)<;>exact pre)|(refine gx (outsideK_sem ?_ ?_ ?_)<;>exact pre)|exact sideG)|(first|apply dG|apply kB);kernel_rfl|apply rR|apply rE|apply rH| (apply cD<;>intro hb<;>(try simp only[SPLT]at hb)<;>try exact noB))
  all_goals try exact false
  subst hr
  repeat' ((conv=>whnf);first|exact endR|with_reducible first|apply And.intro|apply oR|apply oN|apply dC)
  all_goals (conv=>whnf)
  simp only [Wy.row,List.map_nil]
  (first|refine rle_agg ?_|refine dle_agg ?_|skip)
  repeat' (first|exact endF|exact endF2|with_reducible apply dC|with_reducible apply dle_agg)
theorem way_some (p:Str) (i:Nat) (hp:p.length≤1000) (hi:Lib.lastIndexByte ⟨p.toArray⟩ 47=i) (hil:i < p.length) (hnb:namesB (p.take i)=true):Sem Tryz.prog 80 [.str p] (.tup [.agg (tailN (partsAt 47 (p.take i)) (partsAt 46 (p.drop (i+1)))).1.row,.bool (tailN (partsAt 47 (p.take i)) (partsAt 46 (p.drop (i+1)))).2]):=by
 have h1:=lastIndex_sem p 47 (by omega)
 rw [show ((47:UInt8).toNat:Int)=47 from rfl,hi] at h1
 have h0:=namesOf_sem (p.take i) (by simp;omega)
 rw [hnb] at h0
 generalize partsAt 47 (p.take i)=ns at h0 ⊢
 have hq:(p.drop (i+1)).length≤1000:=by simp;omega
 have h2:=(split_sem (p.drop (i+1)) 46 (by omega)).frozen
 have h3:∀ a ∈ partsAt 46 (p.drop (i+1)),Sem Tryz.prog 102 [.str a] (.bool (isTagB a)):=fun a ha=>isTag_sem a (by have:=part_le ha;omega)
 have h4:∀ a ∈ partsAt 46 (p.drop (i+1)),Sem Tryz.prog 103 [.str a,.int .i64 3] (.tup [.int .i64 (numN a).1,.bool (numN a).2]):=fun a ha=>Number_sem a (by have:=part_le ha;omega)
 have h5:=parts_ne (c:=46) (p.drop (i+1))
 have h6:=parts_len (c:=46) (p.drop (i+1))
 generalize partsAt 46 (p.drop (i+1))=l at h2 h3 h4 h5 h6 ⊢
 rw [show p.drop (i+1)=List.drop ((i:Int)+1).toNat (List.take ((p.length:Int)).toNat p) by rw [Int.toNat_natCast,List.take_length];congr 1] at h2
 generalize hr:tailN ns l=r
 rcases l with _|⟨a,_|⟨b,_|⟨c,_|⟨d,t⟩⟩⟩⟩
 ·exact absurd rfl h5
 ·have ha:=h3 a (by simp)
  rw [tailN] at hr
  generalize isTagB a=q at ha hr
  refine si [2,4,5000007] Tryz.func80 ?_
  repeat'((conv=>whnf);first|((with_reducible apply DrawI.at 28 idl80_7);exact rfl;kernel_rfl)|with_reducible apply ExE.go|((with_reducible apply EqF.mk);exact rfl)|with_reducible apply AndI.mk|with_reducible exact trivial|(try(first|apply eN|apply eI|apply eC);conv=>whnf);apply sD;(focus(try intro hc;have hc0:=hc;(try simp only[SPLT]at hc);try refine and0 ?_);first|exact gx h1|exact gx h2|exact gx ha|exact gx h0|(refine gx (outR_sem ?_ ?_)<;>exact pre)|(refine gx (lastIndex_sem ?_ ?_ ?_)<;>exact pre)|(refine gx (namesOf_sem ?_ ?_)<;>exact pre)|(refine gx (split_sem ?_ ?_ ?_)<;>exact pre)|(refine gx (isTag_sem ?_ ?_)<;>exact pre)|(refine gx (Number_sem ?_ ?_)<;>exact pre)|(refine gx (outsideK_sem ?_ ?_ ?_)<;>exact pre)|exact sideG)|(first|apply dG|apply kB);kernel_rfl|apply rR|apply rE|apply rH| (apply cD<;>intro hb<;>(try simp only[SPLT]at hb)<;>try exact noB))
  all_goals try exact false
  ·rw [if_neg (by simp_all)] at hr
   subst hr
   repeat' ((conv=>whnf);first|exact endR|with_reducible first|apply And.intro|apply oR|apply oN|apply dC)
   all_goals (conv=>whnf)
   simp only [Wy.row,List.map_nil]
   (first|refine rle_agg ?_|refine dle_agg ?_|skip)
   repeat' (first|exact endF|exact endF2|with_reducible apply dC|with_reducible apply dle_agg)
  ·rw [if_pos (by simp_all)] at hr
   refine loop_go (M:=fun t=>mem t [2,4,5000007]) hT hM (fun _:Unit => [(54,.int .i64 0),(4,.obj [.sl 0 1 (ns.map fun s => [.str s]),.str a,.int .i64 0,.int .i64 0])]) (fun _=>True) (fun _=>0) (()) ?_ ?_ ?_
   ·exact finF
   ·exact trivial
   ·rintro _ _
    repeat'((conv=>whnf);first|((with_reducible apply DrawI.at 28 idl80_7);exact rfl;kernel_rfl)|with_reducible apply ExE.go|((with_reducible apply EqF.mk);exact rfl)|with_reducible apply AndI.mk|with_reducible exact trivial|(try(first|apply eN|apply eI|apply eC);conv=>whnf);apply sD;(focus(try intro hc;have hc0:=hc;(try simp only[SPLT]at hc);try refine and0 ?_);first|(refine gx (outR_sem ?_ ?_)<;>exact pre)|(refine gx (lastIndex_sem ?_ ?_ ?_)<;>exact pre)|(refine gx (namesOf_sem ?_ ?_)<;>exact pre)|(refine gx (split_sem ?_ ?_ ?_)<;>exact pre)|(refine gx (isTag_sem ?_ ?_)<;>exact pre)|(refine gx (Number_sem ?_ ?_)<;>exact pre)|(refine gx (outsideK_sem ?_ ?_ ?_)<;>exact pre)|exact sideG)|(first|apply dG|apply kB);kernel_rfl|apply rR|apply rE|apply rH| (apply cD<;>intro hb<;>(try simp only[SPLT]at hb)<;>try exact noB))
    all_goals try exact false
    subst hr
    repeat' ((conv=>whnf);first|exact endR|with_reducible first|apply And.intro|apply oR|apply oN|apply dC)
    all_goals (conv=>whnf)
    simp only [Wy.row,List.map_nil]
    (first|refine rle_agg ?_|refine dle_agg ?_|skip)
    repeat' (first|exact endF|exact endF2|with_reducible apply dC|with_reducible apply dle_agg)
 ·have ha:=h3 a (by simp)
  have hb1:=h4 b (by simp)
  rw [tailN,numB] at hr
  generalize isTagB a=q at ha hr
  generalize numN b=nb at hb1 hr
  obtain ⟨n,o⟩:=nb
  dsimp only at hb1 hr
  have hO:=outR_sem n 50
  generalize outR n 50=u at hO hr
  refine si [2,4,5000007] Tryz.func80 ?_
  repeat'((conv=>whnf);first|((with_reducible apply DrawI.at 28 idl80_7);exact rfl;kernel_rfl)|with_reducible apply ExE.go|((with_reducible apply EqF.mk);exact rfl)|with_reducible apply AndI.mk|with_reducible exact trivial|(try(first|apply eN|apply eI|apply eC);conv=>whnf);apply sD;(focus(try intro hc;have hc0:=hc;(try simp only[SPLT]at hc);try refine and0 ?_);first|exact gx h1|exact gx h2|exact gx ha|exact gx h0|(refine gx (outR_sem ?_ ?_)<;>exact pre)|(refine gx (lastIndex_sem ?_ ?_ ?_)<;>exact pre)|(refine gx (namesOf_sem ?_ ?_)<;>exact pre)|(refine gx (split_sem ?_ ?_ ?_)<;>exact pre)|(refine gx (isTag_sem ?_ ?_)<;>exact pre)|(refine gx (Number_sem ?_ ?_)<;>exact pre)|(refine gx (outsideK_sem ?_ ?_ ?_)<;>exact pre)|exact sideG)|(first|apply dG|apply kB);kernel_rfl|apply rR|apply rE|apply rH| (apply cD<;>intro hb<;>(try simp only[SPLT]at hb)<;>try exact noB))
  all_goals try exact false
  ·rw [if_pos (by simp_all)] at hr
   subst hr
   repeat' ((conv=>whnf);first|exact endR|with_reducible first|apply And.intro|apply oR|apply oN|apply dC)
   all_goals (conv=>whnf)
   simp only [Wy.row,List.map_nil]
   (first|refine rle_agg ?_|refine dle_agg ?_|skip)
   repeat' (first|exact endF|exact endF2|with_reducible apply dC|with_reducible apply dle_agg)
  ·rw [if_neg (by simp_all)] at hr
   refine loop_go (M:=fun t=>mem t [2,4,5000007]) hT hM (fun i:Nat => [(54,.int .i64 i),(4,.obj [.sl 0 1 (ns.map fun s => [.str s]),.str a,.int .i64 (if i=0 then 0 else n),.int .i64 0])]) (fun i=>i≤1∧(1≤i→(o && !u)=true)) (fun i=>1 - i) (0) ?_ ?_ ?_
   ·exact finF
   ·exact ⟨by omega,by omega⟩
   ·rintro i ⟨hi1,hi2⟩
    rcases Nat.lt_or_ge i 1 with hz|hz
    ·obtain rfl:i=0:=by omega
     repeat'((conv=>whnf);first|((with_reducible apply DrawI.at 28 idl80_7);exact rfl;kernel_rfl)|with_reducible apply ExE.go|((with_reducible apply EqF.mk);exact rfl)|with_reducible apply AndI.mk|with_reducible exact trivial|(try(first|apply eN|apply eI|apply eC);conv=>whnf);apply sD;(focus(try intro hc;have hc0:=hc;(try simp only[SPLT]at hc);try refine and0 ?_);first|(exact ⟨by omega,rfl⟩)|exact gx hb1|exact gx hO|(refine gx (outR_sem ?_ ?_)<;>exact pre)|(refine gx (lastIndex_sem ?_ ?_ ?_)<;>exact pre)|(refine gx (namesOf_sem ?_ ?_)<;>exact pre)|(refine gx (split_sem ?_ ?_ ?_)<;>exact pre)|(refine gx (isTag_sem ?_ ?_)<;>exact pre)|(refine gx (Number_sem ?_ ?_)<;>exact pre)|(refine gx (outsideK_sem ?_ ?_ ?_)<;>exact pre)|exact sideG)|(first|apply dG|apply kB);kernel_rfl|apply rR|apply rE|apply rH| (apply cD<;>intro hb<;>(try simp only[SPLT]at hb)<;>try exact noB))
     all_goals try exact false
     ·rw [if_neg (by (first|(revert hb;cases o<;>cases u<;>decide)|(cases o<;>cases u<;>simp_all)))] at hr
      subst hr
      repeat' ((conv=>whnf);first|exact endR|with_reducible first|apply And.intro|apply oR|apply oN|apply dC)
      all_goals (conv=>whnf)
      simp only [Wy.row,List.map_nil]
      (first|refine rle_agg ?_|refine dle_agg ?_|skip)
      repeat' (first|exact endF|exact endF2|with_reducible apply dC|with_reducible apply dle_agg)
     ·refine ⟨1,⟨by omega,fun _=>by rw [(‹o=true∧u=false›:o=true∧u=false).1,(‹o=true∧u=false›:o=true∧u=false).2];rfl⟩,by omega,?_⟩
      exact finF
    ·obtain rfl:i=1:=by omega
     rw [if_pos (hi2 (by omega))] at hr
     repeat'((conv=>whnf);first|((with_reducible apply DrawI.at 28 idl80_7);exact rfl;kernel_rfl)|with_reducible apply ExE.go|((with_reducible apply EqF.mk);exact rfl)|with_reducible apply AndI.mk|with_reducible exact trivial|(try(first|apply eN|apply eI|apply eC);conv=>whnf);apply sD;(focus(try intro hc;have hc0:=hc;(try simp only[SPLT]at hc);try refine and0 ?_);first|(refine gx (outR_sem ?_ ?_)<;>exact pre)|(refine gx (lastIndex_sem ?_ ?_ ?_)<;>exact pre)|(refine gx (namesOf_sem ?_ ?_)<;>exact pre)|(refine gx (split_sem ?_ ?_ ?_)<;>exact pre)|(refine gx (isTag_sem ?_ ?_)<;>exact pre)|(refine gx (Number_sem ?_ ?_)<;>exact pre)|(refine gx (outsideK_sem ?_ ?_ ?_)<;>exact pre)|exact sideG)|(first|apply dG|apply kB);kernel_rfl|apply rR|apply rE|apply rH| (apply cD<;>intro hb<;>(try simp only[SPLT]at hb)<;>try exact noB))
     all_goals try exact false
     subst hr
     repeat' ((conv=>whnf);first|exact endR|with_reducible first|apply And.intro|apply oR|apply oN|apply dC)
     all_goals (conv=>whnf)
     simp only [Wy.row,List.map_nil]
     (first|refine rle_agg ?_|refine dle_agg ?_|skip)
     repeat' (first|exact endF|exact endF2|with_reducible apply dC|with_reducible apply dle_agg)
 ·have ha:=h3 a (by simp)
  have hb1:=h4 b (by simp)
  have hb2:=h4 c (by simp)
  rw [tailN,numB,numB] at hr
  generalize isTagB a=q at ha hr
  generalize numN b=nb at hb1 hr
  generalize numN c=nc at hb2 hr
  obtain ⟨n,o⟩:=nb
  obtain ⟨m,x⟩:=nc
  dsimp only at hb1 hb2 hr
  have hO:=outR_sem n 50
  have hO2:=outR_sem m 20
  generalize outR n 50=u at hO hr
  generalize outR m 20=y at hO2 hr
  refine si [2,4,5000007] Tryz.func80 ?_
  repeat'((conv=>whnf);first|((with_reducible apply DrawI.at 28 idl80_7);exact rfl;kernel_rfl)|with_reducible apply ExE.go|((with_reducible apply EqF.mk);exact rfl)|with_reducible apply AndI.mk|with_reducible exact trivial|(try(first|apply eN|apply eI|apply eC);conv=>whnf);apply sD;(focus(try intro hc;have hc0:=hc;(try simp only[SPLT]at hc);try refine and0 ?_);first|exact gx h1|exact gx h2|exact gx ha|exact gx h0|(refine gx (outR_sem ?_ ?_)<;>exact pre)|(refine gx (lastIndex_sem ?_ ?_ ?_)<;>exact pre)|(refine gx (namesOf_sem ?_ ?_)<;>exact pre)|(refine gx (split_sem ?_ ?_ ?_)<;>exact pre)|(refine gx (isTag_sem ?_ ?_)<;>exact pre)|(refine gx (Number_sem ?_ ?_)<;>exact pre)|(refine gx (outsideK_sem ?_ ?_ ?_)<;>exact pre)|exact sideG)|(first|apply dG|apply kB);kernel_rfl|apply rR|apply rE|apply rH| (apply cD<;>intro hb<;>(try simp only[SPLT]at hb)<;>try exact noB))
  all_goals try exact false
  ·rw [if_pos (by simp_all)] at hr
   subst hr
   repeat' ((conv=>whnf);first|exact endR|with_reducible first|apply And.intro|apply oR|apply oN|apply dC)
   all_goals (conv=>whnf)
   simp only [Wy.row,List.map_nil]
   (first|refine rle_agg ?_|refine dle_agg ?_|skip)
   repeat' (first|exact endF|exact endF2|with_reducible apply dC|with_reducible apply dle_agg)
  ·rw [if_neg (by simp_all)] at hr
   refine loop_go (M:=fun t=>mem t [2,4,5000007]) hT hM (fun i:Nat => [(54,.int .i64 i),(4,.obj [.sl 0 1 (ns.map fun s => [.str s]),.str a,.int .i64 (if i=0 then 0 else n),.int .i64 (if i=2 then m else 0)])]) (fun i=>i≤2∧(1≤i→(o && !u)=true)∧(2≤i→(x && !y)=true)) (fun i=>2 - i) (0) ?_ ?_ ?_
   ·exact finF
   ·exact ⟨by omega,by omega,by omega⟩
   ·rintro i ⟨hi1,hi2,hi3⟩
    rcases Nat.lt_or_ge i 1 with hz|hz
    ·obtain rfl:i=0:=by omega
     repeat'((conv=>whnf);first|((with_reducible apply DrawI.at 28 idl80_7);exact rfl;kernel_rfl)|with_reducible apply ExE.go|((with_reducible apply EqF.mk);exact rfl)|with_reducible apply AndI.mk|with_reducible exact trivial|(try(first|apply eN|apply eI|apply eC);conv=>whnf);apply sD;(focus(try intro hc;have hc0:=hc;(try simp only[SPLT]at hc);try refine and0 ?_);first|(exact ⟨by omega,rfl⟩)|exact gx hb1|exact gx hO|(refine gx (outR_sem ?_ ?_)<;>exact pre)|(refine gx (lastIndex_sem ?_ ?_ ?_)<;>exact pre)|(refine gx (namesOf_sem ?_ ?_)<;>exact pre)|(refine gx (split_sem ?_ ?_ ?_)<;>exact pre)|(refine gx (isTag_sem ?_ ?_)<;>exact pre)|(refine gx (Number_sem ?_ ?_)<;>exact pre)|(refine gx (outsideK_sem ?_ ?_ ?_)<;>exact pre)|exact sideG)|(first|apply dG|apply kB);kernel_rfl|apply rR|apply rE|apply rH| (apply cD<;>intro hb<;>(try simp only[SPLT]at hb)<;>try exact noB))
     all_goals try exact false
     ·rw [if_pos (by (first|(revert hb;cases o<;>cases u<;>decide)|(cases o<;>cases u<;>simp_all)))] at hr
      subst hr
      repeat' ((conv=>whnf);first|exact endR|with_reducible first|apply And.intro|apply oR|apply oN|apply dC)
      all_goals (conv=>whnf)
      simp only [Wy.row,List.map_nil]
      (first|refine rle_agg ?_|refine dle_agg ?_|skip)
      repeat' (first|exact endF|exact endF2|with_reducible apply dC|with_reducible apply dle_agg)
     ·refine ⟨1,⟨by omega,fun _=>by rw [(‹o=true∧u=false›:o=true∧u=false).1,(‹o=true∧u=false›:o=true∧u=false).2];rfl,by omega⟩,by omega,?_⟩
      exact finF
    ·have hou:=hi2 (by omega)
     rw [if_neg (by revert hou;cases o<;>cases u<;>decide)] at hr
     rcases Nat.lt_or_ge i 2 with hz2|hz2
     ·obtain rfl:i=1:=by omega
      repeat'((conv=>whnf);first|((with_reducible apply DrawI.at 28 idl80_7);exact rfl;kernel_rfl)|with_reducible apply ExE.go|((with_reducible apply EqF.mk);exact rfl)|with_reducible apply AndI.mk|with_reducible exact trivial|(try(first|apply eN|apply eI|apply eC);conv=>whnf);apply sD;(focus(try intro hc;have hc0:=hc;(try simp only[SPLT]at hc);try refine and0 ?_);first|(exact ⟨by omega,rfl⟩)|exact gx hb2|exact gx hO2|(refine gx (outR_sem ?_ ?_)<;>exact pre)|(refine gx (lastIndex_sem ?_ ?_ ?_)<;>exact pre)|(refine gx (namesOf_sem ?_ ?_)<;>exact pre)|(refine gx (split_sem ?_ ?_ ?_)<;>exact pre)|(refine gx (isTag_sem ?_ ?_)<;>exact pre)|(refine gx (Number_sem ?_ ?_)<;>exact pre)|(refine gx (outsideK_sem ?_ ?_ ?_)<;>exact pre)|exact sideG)|(first|apply dG|apply kB);kernel_rfl|apply rR|apply rE|apply rH| (apply cD<;>intro hb<;>(try simp only[SPLT]at hb)<;>try exact noB))
      all_goals try exact false
      ·rw [if_neg (by (first|(revert hb;cases x<;>cases y<;>decide)|(cases x<;>cases y<;>simp_all)))] at hr
       subst hr
       repeat' ((conv=>whnf);first|exact endR|with_reducible first|apply And.intro|apply oR|apply oN|apply dC)
       all_goals (conv=>whnf)
       simp only [Wy.row,List.map_nil]
       (first|refine rle_agg ?_|refine dle_agg ?_|skip)
       repeat' (first|exact endF|exact endF2|with_reducible apply dC|with_reducible apply dle_agg)
      ·refine ⟨2,⟨by omega,fun _=>hou,fun _=>by rw [(‹x=true∧y=false›:x=true∧y=false).1,(‹x=true∧y=false›:x=true∧y=false).2];rfl⟩,by omega,?_⟩
       exact finF
     ·obtain rfl:i=2:=by omega
      rw [if_pos (hi3 (by omega))] at hr
      repeat'((conv=>whnf);first|((with_reducible apply DrawI.at 28 idl80_7);exact rfl;kernel_rfl)|with_reducible apply ExE.go|((with_reducible apply EqF.mk);exact rfl)|with_reducible apply AndI.mk|with_reducible exact trivial|(try(first|apply eN|apply eI|apply eC);conv=>whnf);apply sD;(focus(try intro hc;have hc0:=hc;(try simp only[SPLT]at hc);try refine and0 ?_);first|(refine gx (outR_sem ?_ ?_)<;>exact pre)|(refine gx (lastIndex_sem ?_ ?_ ?_)<;>exact pre)|(refine gx (namesOf_sem ?_ ?_)<;>exact pre)|(refine gx (split_sem ?_ ?_ ?_)<;>exact pre)|(refine gx (isTag_sem ?_ ?_)<;>exact pre)|(refine gx (Number_sem ?_ ?_)<;>exact pre)|(refine gx (outsideK_sem ?_ ?_ ?_)<;>exact pre)|exact sideG)|(first|apply dG|apply kB);kernel_rfl|apply rR|apply rE|apply rH| (apply cD<;>intro hb<;>(try simp only[SPLT]at hb)<;>try exact noB))
      all_goals try exact false
      subst hr
      repeat' ((conv=>whnf);first|exact endR|with_reducible first|apply And.intro|apply oR|apply oN|apply dC)
      all_goals (conv=>whnf)
      simp only [Wy.row,List.map_nil]
      (first|refine rle_agg ?_|refine dle_agg ?_|skip)
      repeat' (first|exact endF|exact endF2|with_reducible apply dC|with_reducible apply dle_agg)
 ·replace hr:(((ns:List Str),([]:Str),(0:Int),(0:Int)),false)=r:=hr
  have ha:=h3 a (by simp)
  refine si [2,4,5000007] Tryz.func80 ?_
  repeat'((conv=>whnf);first|((with_reducible apply DrawI.at 28 idl80_7);exact rfl;kernel_rfl)|with_reducible apply ExE.go|((with_reducible apply EqF.mk);exact rfl)|with_reducible apply AndI.mk|with_reducible exact trivial|(try(first|apply eN|apply eI|apply eC);conv=>whnf);apply sD;(focus(try intro hc;have hc0:=hc;(try simp only[SPLT]at hc);try refine and0 ?_);first|exact gx h1|exact gx h2|exact gx ha|exact gx h0|(refine gx (outR_sem ?_ ?_)<;>exact pre)|(refine gx (lastIndex_sem ?_ ?_ ?_)<;>exact pre)|(refine gx (namesOf_sem ?_ ?_)<;>exact pre)|(refine gx (split_sem ?_ ?_ ?_)<;>exact pre)|(refine gx (isTag_sem ?_ ?_)<;>exact pre)|(refine gx (Number_sem ?_ ?_)<;>exact pre)|(refine gx (outsideK_sem ?_ ?_ ?_)<;>exact pre)|exact sideG)|(first|apply dG|apply kB);kernel_rfl|apply rR|apply rE|apply rH| (apply cD<;>intro hb<;>(try simp only[SPLT]at hb)<;>try exact noB))
  all_goals try exact false
  subst hr
  repeat' ((conv=>whnf);first|exact endR|with_reducible first|apply And.intro|apply oR|apply oN|apply dC)
  all_goals (conv=>whnf)
  simp only [Wy.row,List.map_nil]
  (first|refine rle_agg ?_|refine dle_agg ?_|skip)
  repeat' (first|exact endF|exact endF2|with_reducible apply dC|with_reducible apply dle_agg)
theorem way_bad (p:Str) (i:Nat) (hp:p.length≤1000) (hi:Lib.lastIndexByte ⟨p.toArray⟩ 47=i) (hil:i < p.length) (hnb:namesB (p.take i)=false):Sem Tryz.prog 80 [.str p] (.tup [.agg (Wy.row ([],[],0,0)),.bool false]):=by
 have h1:=lastIndex_sem p 47 (by omega)
 rw [show ((47:UInt8).toNat:Int)=47 from rfl,hi] at h1
 have h0:=namesOf_sem (p.take i) (by simp;omega)
 rw [hnb] at h0
 generalize partsAt 47 (p.take i)=ns at h0
 refine si [2,4,5000007] Tryz.func80 ?_
 repeat'((conv=>whnf);first|((with_reducible apply DrawI.at 28 idl80_7);exact rfl;kernel_rfl)|with_reducible apply ExE.go|((with_reducible apply EqF.mk);exact rfl)|with_reducible apply AndI.mk|with_reducible exact trivial|(try(first|apply eN|apply eI|apply eC);conv=>whnf);apply sD;(focus(try intro hc;have hc0:=hc;(try simp only[SPLT]at hc);try refine and0 ?_);first|exact gx h1|exact gx h0|(refine gx (outR_sem ?_ ?_)<;>exact pre)|(refine gx (lastIndex_sem ?_ ?_ ?_)<;>exact pre)|(refine gx (namesOf_sem ?_ ?_)<;>exact pre)|(refine gx (split_sem ?_ ?_ ?_)<;>exact pre)|(refine gx (isTag_sem ?_ ?_)<;>exact pre)|(refine gx (Number_sem ?_ ?_)<;>exact pre)|(refine gx (outsideK_sem ?_ ?_ ?_)<;>exact pre)|exact sideG)|(first|apply dG|apply kB);kernel_rfl|apply rR|apply rE|apply rH| (apply cD<;>intro hb<;>(try simp only[SPLT]at hb)<;>try exact noB))
 all_goals try exact false
 repeat' ((conv=>whnf);first|exact endR|with_reducible first|apply And.intro|apply oR|apply oN|apply dC)
 all_goals (conv=>whnf)
 simp only [Wy.row,List.map_nil]
 (first|refine rle_agg ?_|refine dle_agg ?_|skip)
 repeat' (first|exact endF|exact endF2|with_reducible apply dC|with_reducible apply dle_agg)
end Go.Proofs.YtindehjiaknokaaGreatDoor
