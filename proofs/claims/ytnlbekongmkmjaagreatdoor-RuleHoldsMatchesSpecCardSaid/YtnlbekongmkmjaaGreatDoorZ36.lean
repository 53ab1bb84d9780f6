/- Products of the reference's whole numbers (walk). -/
import Derived.Test.YtnlbekongmkmjaaGreatDoorZ11
namespace Go.Proofs.YtnlbekongmkmjaaGreatDoor
set_option linter.unusedSimpArgs false
set_option linter.unusedVariables false
open Go.RowKit
set_option maxRecDepth 100000
set_option maxHeartbeats 8000000
theorem times1_sem (x y:Int) (hx:ROk 100 x) (hy:ROk 100 y):Sem Tryz.prog 189 [.agg (rC x),.agg (rC y)] (.agg (rC (x * y))):=by
 have lx:(dg RB x.natAbs).length≤100:=hx.len
 have ly:(dg RB y.natAbs).length≤100:=hy.len
 have dx:=dg_dig RB2 x.natAbs
 have dy:=dg_dig RB2 y.natAbs
 have hvx:=vl_dg RB2 x.natAbs
 have hvy:=vl_dg RB2 y.natAbs
 have hmk:∀ out:List Nat,out.length≤1000→Dig RB out→vl RB out=vl RB (dg RB x.natAbs) * vl RB (dg RB y.natAbs)→Sem Tryz.prog 218 [.agg [.bool (!(decide (x < 0) == decide (y < 0))),.sl 0 1 (out.map i64R)]] (.agg (rC (x * y))):=fun out h1 h2 h3=>by
  have hm:=trimmed1_sem (!(decide (x < 0) == decide (y < 0))) out h1 h2
  rw [rN_of (z:=x * y) (by rw [h3,hvx,hvy,Int.natAbs_mul]) (fun h => ?_) (fun h => ?_)] at hm
  ·exact hm
  ·rw [(mul_sgn x y).1 h];rfl
  ·rw [(mul_sgn x y).2 h];rfl
 unfold rC at hmk ⊢
 generalize dg RB x.natAbs=a at *
 generalize dg RB y.natAbs=b at *
 generalize dg RB (x * y).natAbs=c at hmk ⊢
 generalize decide (x < 0)=sx at hmk ⊢
 generalize decide (y < 0)=sy at hmk ⊢
 generalize decide (x * y < 0)=sz at hmk ⊢
 have hla:(a.map i64R).length=a.length:=List.length_map _
 have hlb:(b.map i64R).length=b.length:=List.length_map _
 refine si [4,5,4000005] Tryz.func189 ?_
 repeat'((conv=>whnf);first|(try(first|apply eN|apply eI|apply eC);conv=>whnf);apply sD;(focus first|(refine gx (trimmed1_sem ?_ ?_ ?_ ?_)<;>exact pre)|exact side)|(first|apply dG|apply kB);kernel_rfl|apply rR|apply rE|apply rH|(apply cD<;>intro hb<;>(try simp only[SPLT]at hb)<;>try exact noB))
 all_goals try exact false
 refine loop_go (M:=fun t=>mem t [4,5,4000005]) hT hM (fun x:Nat × List Nat => [(29,.int .i64 x.1),(5,.obj [.bool (!(sx == sy)),.sl 2 1 (x.2.map i64R)])]) (fun x=>x.1≤a.length∧x.2.length=a.length+b.length+1∧Bd (2000000 * (100 * x.1)) x.2∧vl RB x.2=vl RB (a.take x.1) * vl RB b) (fun x=>a.length - x.1) ((0,List.replicate (a.length+b.length+1) 0)) ?_ ?_ ?_
 ·(conv=>whnf)
  refine ⟨?_,by rfl⟩
  repeat' ((conv=>whnf);first|exact endF|(exact DLe.of_eq (congrArg (fun rs=>D.obj [D.bool (!(sx == sy)),D.sl 2 1 rs]) (zeros_eq hla hlb)))|exact endF2|with_reducible apply dC)
 ·exact ⟨Nat.zero_le _,List.length_replicate,fun i d hd=>by rw [(List.mem_replicate.1 (gMem hd)).2];omega,by rw [vl_zeros,List.take_zero,vl,Nat.zero_mul]⟩
 ·rintro ⟨i,out⟩ ⟨hi,hol,hod,hv⟩
  dsimp only at hi hol hod hv ⊢
  have hom:(out.map i64R).length=a.length+b.length+1:=by rw [List.length_map];exact hol
  cases hxx:a[i]? with
  |none=>
   have hm:=List.getElem?_eq_none_iff.1 hxx
   obtain rfl:i=a.length:=by omega
   rw [List.take_length] at hv
   repeat'((conv=>whnf);first|(try(first|apply eN|apply eI|apply eC);conv=>whnf);apply sD;(focus first|(refine gx (trimmed1_sem ?_ ?_ ?_ ?_)<;>exact pre)|exact side)|(first|apply dG|apply kB);kernel_rfl|apply rR|apply rE|apply rH|(apply cD<;>intro hb<;>(try simp only[SPLT]at hb)<;>try exact noB))
   all_goals try exact false
   refine loop_go (M:=fun t=>mem t [4,5,4000005]) hT hM (fun x:Nat × List Nat => [(87,.int .i64 x.1),(5,.obj [.bool (!(sx == sy)),.sl 2 1 (x.2.map i64R)])]) (fun x=>x.1≤a.length+b.length∧x.2.length=a.length+b.length+1∧Bd (20000000000+30000 * x.1) x.2∧LoD x.1 x.2∧vl RB x.2=vl RB a * vl RB b) (fun x=>a.length+b.length - x.1) ((0,out)) ?_ ?_ ?_
   ·exact finF
   ·exact ⟨Nat.zero_le _,hol,hod.mono (by omega),fun i d hi=>by omega,hv⟩
   ·rintro ⟨j,o⟩ ⟨hj,hoL,hoB,hoD,hov⟩
    dsimp only at hj hoL hoB hoD hov ⊢
    have hom:(o.map i64R).length=a.length+b.length+1:=by rw [List.length_map];exact hoL
    by_cases hend:j=a.length+b.length
    ·subst hend
     have hmk:=hmk o (by omega) (lo_dig hoL hoD (by rw [hov,Nat.pow_add];exact Nat.mul_lt_mul_of_lt_of_lt (vl_lt dx) (vl_lt dy))) hov
     repeat'((conv=>whnf);first|(try(first|apply eN|apply eI|apply eC);conv=>whnf);apply sD;(focus first|exact gx hmk|(refine gx (trimmed1_sem ?_ ?_ ?_ ?_)<;>exact pre)|exact side)|(first|apply dG|apply kB);kernel_rfl|apply rR|apply rE|apply rH|(apply cD<;>intro hb<;>(try simp only[SPLT]at hb)<;>try exact noB))
     all_goals try exact false
     exact finR
    ·obtain ⟨t,ht⟩:∃ t,o[j]?=some t:=⟨_,List.getElem?_eq_getElem (by omega)⟩
     obtain ⟨p,hp⟩:∃ p,o[j+1]?=some p:=⟨_,List.getElem?_eq_getElem (by omega)⟩
     have htB:=hoB j t ht
     have hpB:=hoB (j+1) p hp
     have hcv:=carry_vl ht hp (t:=t)
     have hcb:=carry_bd (M:=20000000000+30000 * (j+1)) (t:=t) (p:=p) (j:=j) (hoB.mono (by omega)) (by unfold RB;omega) (by unfold RB;omega)
     have hcl:=carry_lo (t:=t) (p:=p) hoD
     have hcm:=fun (m2 m3 v2 v3:Int)=>carry_map2 (m2:=m2) (m3:=m3) (v2:=v2) (v3:=v3) o j t p ht
     obtain ⟨q,hq⟩:∃ q,q=t / RB:=⟨_,rfl⟩
     obtain ⟨s,hs⟩:∃ s,s=t % RB:=⟨_,rfl⟩
     have wq:IntKind.i64.wrap (Int.tdiv (t:Int) 1000000)=(q:Int):=by
      rw [hq,Int.tdiv_eq_ediv_of_nonneg (by omega),IntWalk.i64_in _ (by omega)];unfold RB;omega
     have wr:Int.tmod (t:Int) 1000000=(s:Int):=by
      rw [hs,Int.tmod_eq_emod_of_nonneg (by omega)];unfold RB;omega
     have hqB:q≤30000:=by rw [hq];unfold RB;omega
     simp only [← hq,← hs] at hcm
     repeat'((conv=>whnf);first|(try(first|apply eN|apply eI|apply eC);conv=>whnf);apply sD;(focus first|(exact idx_esR hp (by omega))|(exact idx_esR ht (by omega))|(exact ⟨by decide,wq⟩)|(exact ⟨by decide,wr⟩)|(exact idx_setNe (n':=j+1) ht (by omega) (by omega) (by omega))|(exact ⟨by omega,by simp only [List.length_set];omega⟩)|(refine gx (trimmed1_sem ?_ ?_ ?_ ?_)<;>exact pre)|exact side)|(first|apply dG|apply kB);kernel_rfl|apply rR|apply rE|apply rH|(apply cD<;>intro hb<;>(try simp only[SPLT]at hb)<;>try exact noB))
     all_goals try exact false
     refine ⟨(j+1,carryL o j t p),⟨by dsimp only;omega,by dsimp only;rw [carry_len];exact hoL,hcb,hcl,by dsimp only;omega⟩,by dsimp only;omega,?_⟩
     (conv=>whnf)
     refine ⟨?_,by rfl⟩
     repeat' ((conv=>whnf);first|exact endF|(exact DLe.of_eq (congrArg (fun rs=>D.obj [D.bool (!(sx == sy)),D.sl 2 1 rs]) (hcm _ _ _ _ (by omega) (by omega) (by omega) (by omega))))|exact endF2|with_reducible apply dC)
  |some u=>
   have hlt:=(gLt hxx)
   have huB:u < 1000000:=dx u (gMem hxx)
   repeat'((conv=>whnf);first|(try(first|apply eN|apply eI|apply eC);conv=>whnf);apply sD;(focus first|(exact idx_i64 hxx rfl)|(refine gx (trimmed1_sem ?_ ?_ ?_ ?_)<;>exact pre)|exact side)|(first|apply dG|apply kB);kernel_rfl|apply rR|apply rE|apply rH|(apply cD<;>intro hb<;>(try simp only[SPLT]at hb)<;>try exact noB))
   all_goals try exact false
   refine loop_go (M:=fun t=>mem t [4,5,4000005]) hT hM (fun x:Nat × List Nat => [(37,.int .i64 x.1),(5,.obj [.bool (!(sx == sy)),.sl 2 1 (x.2.map i64R)])]) (fun x=>x.1≤b.length∧x.2.length=a.length+b.length+1∧Bd (2000000 * (100 * i+x.1)) x.2∧vl RB x.2=vl RB (a.take i) * vl RB b+u * vl RB (b.take x.1) * RB ^ i) (fun x=>b.length - x.1) ((0,out)) ?_ ?_ ?_
   ·exact finF
   ·exact ⟨Nat.zero_le _,hol,hod.mono (by omega),by simp [vl];exact hv⟩
   ·rintro ⟨k,o⟩ ⟨hk,hoL,hoB,hov⟩
    dsimp only at hk hoL hoB hov ⊢
    have hom:(o.map i64R).length=a.length+b.length+1:=by rw [List.length_map];exact hoL
    cases hyy:b[k]? with
    |none=>
     have hm:=List.getElem?_eq_none_iff.1 hyy
     obtain rfl:k=b.length:=by omega
     repeat'((conv=>whnf);first|(try(first|apply eN|apply eI|apply eC);conv=>whnf);apply sD;(focus first|(refine gx (trimmed1_sem ?_ ?_ ?_ ?_)<;>exact pre)|exact side)|(first|apply dG|apply kB);kernel_rfl|apply rR|apply rE|apply rH|(apply cD<;>intro hb<;>(try simp only[SPLT]at hb)<;>try exact noB))
     all_goals try exact false
     rw [List.take_length] at hov
     refine ⟨(i+1,o),⟨by dsimp only;omega,hoL,hoB.mono (by omega),?_⟩,by dsimp only;omega,?_⟩
     ·dsimp only
      rw [hov,vl_takeS hxx,Nat.add_mul]
      congr 1
      rw [Nat.mul_comm (RB ^ i) u,Nat.mul_assoc,Nat.mul_assoc,Nat.mul_comm (vl RB b)]
     ·exact finF
    |some v=>
     have hlk:=(gLt hyy)
     have hvB:v < 1000000:=dy v (gMem hyy)
     obtain ⟨f,hf⟩:∃ f,o[i+k]?=some f:=⟨_,List.getElem?_eq_getElem (by omega)⟩
     obtain ⟨p,hp⟩:∃ p,o[i+k+1]?=some p:=⟨_,List.getElem?_eq_getElem (by omega)⟩
     have hfB:=hoB _ f hf
     have hpB:=hoB _ p hp
     obtain ⟨m,hm⟩:∃ m,m=u * v:=⟨_,rfl⟩
     have hmB:m≤999998000001:=by rw [hm];exact Nat.mul_le_mul (show u≤999999 by omega) (show v≤999999 by omega)
     obtain ⟨t,ht⟩:∃ t,t=f+m:=⟨_,rfl⟩
     have hcv:=carry_vl (t:=t) hf hp
     have hcb:=carry_bd (M:=2000000 * (100 * i+(k+1))) (t:=t) (p:=p) (j:=i+k) (hoB.mono (by omega)) (by unfold RB;omega) (by unfold RB;omega)
     have hcm:=fun (m1 m2 m3 v1 v2 v3:Int)=>carry_map (m1:=m1) (m2:=m2) (m3:=m3) (v1:=v1) (v2:=v2) (v3:=v3) o (i+k) t p
     obtain ⟨q,hq⟩:∃ q,q=t / RB:=⟨_,rfl⟩
     obtain ⟨s,hs⟩:∃ s,s=t % RB:=⟨_,rfl⟩
     have w1:IntKind.i64.wrap ((u:Int) * (v:Int))=(m:Int):=by
      rw [← Int.natCast_mul,← hm];exact IntWalk.i64_in _ (by omega)
     have w2:IntKind.i64.wrap ((f:Int)+(m:Int))=(t:Int):=by rw [ht,IntWalk.i64_in _ (by omega)];omega
     have wq:IntKind.i64.wrap (Int.tdiv (t:Int) 1000000)=(q:Int):=by
      rw [hq,Int.tdiv_eq_ediv_of_nonneg (by omega),IntWalk.i64_in _ (by omega)];unfold RB;omega
     have wr:Int.tmod (t:Int) 1000000=(s:Int):=by
      rw [hs,Int.tmod_eq_emod_of_nonneg (by omega)];unfold RB;omega
     have hqB:q≤1100000:=by rw [hq];unfold RB;omega
     have hnew:vl RB (carryL o (i+k) t p)=vl RB (a.take i) * vl RB b+u * vl RB (b.take (k+1)) * RB ^ i:=by
      have e:u * vl RB (b.take (k+1)) * RB ^ i=u * vl RB (b.take k) * RB ^ i+m * RB ^ (i+k):=by
       rw [vl_takeS hyy,Nat.mul_add,Nat.add_mul,hm,Nat.pow_add]
       congr 1
       rw [Nat.mul_comm (RB ^ k) v,← Nat.mul_assoc,Nat.mul_assoc,Nat.mul_comm (RB ^ k)]
      rw [ht,Nat.add_mul] at hcv
      rw [e]
      rw [ht]
      omega
     simp only [← hq,← hs] at hcm
     clear hcv
     repeat'((conv=>whnf);first|(try(first|apply eN|apply eI|apply eC);conv=>whnf);apply sD;(focus first|(exact idx_i64 hyy rfl)|(exact idx_esR hf (by omega))|(exact w1)|(exact w2)|(exact idx_setNe (n':=i+k) hp (by omega) (by omega) (by omega))|(exact idx_setEq (n:=i+k) (by omega) (by omega) (by omega))|(exact idx_set2 (n:=i+k) (n':=i+k+1) (by omega) (by omega) (by omega) (by omega) (by omega))|(exact ⟨by decide,wq⟩)|(exact ⟨by decide,wr⟩)|(exact ⟨by omega,by simp only [List.length_set];omega⟩)|(refine gx (trimmed1_sem ?_ ?_ ?_ ?_)<;>exact pre)|exact side)|(first|apply dG|apply kB);kernel_rfl|apply rR|apply rE|apply rH|(apply cD<;>intro hb<;>(try simp only[SPLT]at hb)<;>try exact noB))
     all_goals try exact false
     refine ⟨(k+1,carryL o (i+k) t p),⟨by dsimp only;omega,by dsimp only;rw [carry_len];exact hoL,hcb,hnew⟩,by dsimp only;omega,?_⟩
     (conv=>whnf)
     refine ⟨?_,by rfl⟩
     repeat' ((conv=>whnf);first|exact endF|(exact DLe.of_eq (congrArg (fun rs=>D.obj [D.bool (!(sx == sy)),D.sl 2 1 rs]) (hcm _ _ _ _ _ _ (by omega) (by omega) (by omega) (by omega) (by omega) (by omega))))|exact endF2|with_reducible apply dC)
end Go.Proofs.YtnlbekongmkmjaaGreatDoor
