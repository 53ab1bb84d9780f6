/- Conditions: the comparison. -/
import Derived.Test.YtnjgoldinaffgaaGreatDoorY12
namespace Go.Proofs.YtnjgoldinaffgaaGreatDoor
open _root_.Go.Proofs.Tryz
set_option linter.unusedSimpArgs false
set_option linter.unusedVariables false
open Go.RowKit
set_option maxRecDepth 100000
set_option maxHeartbeats 400000
theorem zCw (a:Cond):∀ b:Cond,Sem Tryz.prog 48 [.agg a.row,.agg b.row] (.bool (a.same b)):=by
 induction a using Cond.ind with
 |h k ks p vs lo hi ih=>
  intro b
  obtain ⟨k',ks',p',vs',lo',hi'⟩:=b
  obtain ⟨r,hr⟩:∃ r,r=(Cond.mk k ks p vs lo hi).same (.mk k' ks' p' vs' lo' hi'):=⟨_,rfl⟩
  have hs:r=true↔k=k'∧ks=ks'∧p=p'∧vs=vs'∧lo=lo'∧hi=hi':=by rw [hr];exact Cond.same_mk
  rw [← hr,Cond.row_mk,Cond.row_mk]
  clear hr
  have no:¬ (k=k'∧ks=ks'∧p=p'∧vs=vs'∧lo=lo'∧hi=hi')→false=r:=fun h=>by
   cases r with
   |false=>rfl
   |true=>exact absurd (hs.1 rfl) h
  refine xN 0 1 rfl rfl rfl fun hl1=>xN 0 3 rfl rfl rfl fun hl3 => ?_
  rw [List.length_map] at hl1 hl3
  refine si [] func48 ?_
  repeat'((conv=>whnf);first|(try(first|apply eN|apply eI|apply eC);conv=>whnf);apply sD;(focus(try intro hc;have hc0:=hc;(try simp only[aA]at hc);try refine aE ?_);first|exact aC)|(first|apply dG|apply kB);kernel_rfl|apply rR|apply rE|apply rH| (apply cD<;>intro hb<;>(try simp only[aA]at hb)<;>try exact aM))
  all_goals try exact false
  ·repeat' ((conv=>whnf);first|exact aI|with_reducible first|apply And.intro|apply oR|apply oN|apply dC)
   all_goals (conv=>whnf)
   refine aS (no ?_)
   rintro ⟨rfl,rfl,rfl,rfl,rfl,rfl⟩
   simp at hb
  ·refine aL (M:=fun t=>gF t []) hT hM (fun i:Nat => [(5,.int .i64 i)]) (fun i=>i≤vs.length∧vs.take i=vs'.take i) (fun i=>vs.length - i) (0) ?_ ?_ ?_
   ·exact aV
   ·exact ⟨by omega,rfl⟩
   ·rintro i ⟨hi1,hi2⟩
    cases hx:vs[i]? with
    |none=>
     have hn:=List.getElem?_eq_none_iff.1 hx
     repeat'((conv=>whnf);first|(try(first|apply eN|apply eI|apply eC);conv=>whnf);apply sD;(focus(try intro hc;have hc0:=hc;(try simp only[aA]at hc);try refine aE ?_);first|exact aC)|(first|apply dG|apply kB);kernel_rfl|apply rR|apply rE|apply rH| (apply cD<;>intro hb<;>(try simp only[aA]at hb)<;>try exact aM))
     all_goals try exact false
     refine aL (M:=fun t=>gF t []) hT hM (fun j:Nat => [(6,.int .i64 j)]) (fun j=>j≤ks.length∧ks.take j=ks'.take j) (fun j=>ks.length - j) (0) ?_ ?_ ?_
     ·exact aV
     ·exact ⟨by omega,rfl⟩
     ·rintro j ⟨hj1,hj2⟩
      cases hy:ks[j]? with
      |none=>
       have hm:=List.getElem?_eq_none_iff.1 hy
       repeat'((conv=>whnf);first|(try(first|apply eN|apply eI|apply eC);conv=>whnf);apply sD;(focus(try intro hc;have hc0:=hc;(try simp only[aA]at hc);try refine aE ?_);first|exact aC)|(first|apply dG|apply kB);kernel_rfl|apply rR|apply rE|apply rH| (apply cD<;>intro hb<;>(try simp only[aA]at hb)<;>try exact aM))
       all_goals try exact false
       repeat' ((conv=>whnf);first|exact aI|with_reducible first|apply And.intro|apply oR|apply oN|apply dC)
       all_goals (conv=>whnf)
       have e1:vs=vs':=by
        rw [List.take_of_length_le hn] at hi2
        rw [List.take_of_length_le (by omega)] at hi2
        exact hi2
       have e2:ks=ks':=by
        rw [List.take_of_length_le hm] at hj2
        rw [List.take_of_length_le (by omega)] at hj2
        exact hj2
       refine aS (Eq.symm (hs.2 ⟨?_,e2,?_,e1,?_,?_⟩))<;>first|omega|simp_all
      |some x=>
       have hxm:x ∈ ks:=aK hy
       have hlt:=(bC hy)
       obtain ⟨y,hy'⟩:∃ y,ks'[j]?=some y:=⟨ks'[j]'(by omega),by simp⟩
       have ih':=ih x hxm y
       have hxy:=Cond.same_iff x y
       generalize x.same y=e at ih' hxy
       obtain ⟨k1,ks1,p1,vs1,lo1,hi1⟩:=x
       obtain ⟨k2,ks2,p2,vs2,lo2,hi2⟩:=y
       rw [Cond.row_mk,Cond.row_mk] at ih'
       repeat'((conv=>whnf);first|(try(first|apply eN|apply eI|apply eC);conv=>whnf);apply sD;(focus(try intro hc;have hc0:=hc;(try simp only[aA]at hc);try refine aE ?_);first|(exact wU hy rfl)|(exact wU hy' rfl)|exact gx ih' | exact aC)|(first|apply dG|apply kB);kernel_rfl|apply rR|apply rE|apply rH| (apply cD<;>intro hb<;>(try simp only[aA]at hb)<;>try exact aM))
       all_goals try exact false
       ·repeat' ((conv=>whnf);first|exact aI|with_reducible first|apply And.intro|apply oR|apply oN|apply dC)
        all_goals (conv=>whnf)
        refine aS (no ?_)
        rintro ⟨_,rfl,_,_,_,_⟩
        rw [hy] at hy'
        have:=hxy.2 (Option.some.inj hy')
        simp_all
       ·refine ⟨j+1,⟨by omega,?_⟩,by omega,?_⟩
        ·rw [eZ hy,eZ hy',hj2,hxy.1 (by assumption)]
        ·exact aV
    |some x=>
     have hlt:=(bC hx)
     obtain ⟨y,hy'⟩:∃ y,vs'[i]?=some y:=⟨vs'[i]'(by omega),by simp⟩
     repeat'((conv=>whnf);first|(try(first|apply eN|apply eI|apply eC);conv=>whnf);apply sD;(focus(try intro hc;have hc0:=hc;(try simp only[aA]at hc);try refine aE ?_);first|exact aC)|(first|apply dG|apply kB);kernel_rfl|apply rR|apply rE|apply rH| (apply cD<;>intro hb<;>(try simp only[aA]at hb)<;>try exact aM))
     all_goals try exact false
     ·repeat' ((conv=>whnf);first|exact aI|with_reducible first|apply And.intro|apply oR|apply oN|apply dC)
      all_goals (conv=>whnf)
      refine aS (no ?_)
      rintro ⟨_,_,_,rfl,_,_⟩
      rw [hx] at hy'
      have:=Option.some.inj hy'
      simp_all
     ·refine ⟨i+1,⟨by omega,?_⟩,by omega,?_⟩
      ·have hxy:x=y:=by simp_all
       rw [eZ hx,eZ hy',hi2,hxy]
      ·exact aV
end Go.Proofs.YtnjgoldinaffgaaGreatDoor
