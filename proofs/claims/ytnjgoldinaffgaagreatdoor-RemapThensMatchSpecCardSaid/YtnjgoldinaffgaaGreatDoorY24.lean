/- Conditions are right: the reference's check (walks). -/
import Derived.Test.YtnjgoldinaffgaaGreatDoorY23
namespace Go.Proofs.YtnjgoldinaffgaaGreatDoor
open _root_.Go.Proofs.Tryz
set_option linter.unusedSimpArgs false
set_option linter.unusedVariables false
open Go.RowKit
set_option maxRecDepth 100000
set_option maxHeartbeats 4000000
theorem zE (k:Int) (rows:List (List D)) (p:Str) (vs:List (List D)) (lo hi:Int) (hk1:1≤k) (hk9:k≤9):Sem Tryz.prog 221 [.agg [.int .i64 k,.sl 0 6 rows,.str p,.sl 0 1 vs,.int .i64 lo,.int .i64 hi]] (.bool (!oW k rows.length p vs.length lo hi)):=by
 have hf:oW k rows.length p vs.length lo hi=((!iL k && decide (0 < rows.length)) || (!decide (4≤k) && !(p == [])) || (!(k == 5) && decide (0 < vs.length)) || (!(k == 6 || k == 9) && (!(lo == 0) || !(hi == 0))) || (iL k && (rows.length == 0 || ((k == 3 || nY k) && !(rows.length == 1))))):=rfl
 generalize oW k rows.length p vs.length lo hi=r at hf ⊢
 unfold iL nY at hf
 have e1:((vs.length:Int) == 0)=(vs.length == 0):=by rw [Bool.eq_iff_iff];simp
 have e2:decide (0 < vs.length) = !(vs.length == 0):=by cases vs<;>simp
 have e3:((rows.length:Int) == 0)=(rows.length == 0):=by rw [Bool.eq_iff_iff];simp
 have e6:decide (0 < rows.length) = !(rows.length == 0):=by cases rows<;>simp
 have e4:decide (0 < (rows.length:Int)) = !(rows.length == 0):=by rw [← e6];exact decide_eq_decide.2 (by omega)
 have e5:((rows.length:Int) == 1)=(rows.length == 1):=by rw [Bool.eq_iff_iff];simp;omega
 have e7:(rows.length == 0)=true→(rows.length == 1)=false:=fun h=>by rw [beq_iff_eq.1 h];rfl
 have e8:(p == ({ data := #[] }:ByteArray).data.toList)=(p == []):=rfl
 rw [e2,e6] at hf
 refine si [1000157] func221 ?_
 repeat'((conv=>whnf);first|(try(first|apply eN|apply eI|apply eC);conv=>whnf);apply sD;(focus(try intro hc;have hc0:=hc;(try simp only[aA]at hc);try refine aE ?_);first|exact aC)|(first|apply dG|apply kB);kernel_rfl|apply rR|apply rE|apply rH| (apply cD<;>intro hb<;>(try simp only[aA]at hb)<;>try exact aM))
 all_goals try exact false
 all_goals (
  repeat' ((conv=>whnf);first|exact aI|with_reducible first|apply And.intro|apply oR|apply oN|apply dC)
  all_goals (conv=>whnf)
  refine aS ?_
  rw [hf]
  clear hf
  try rw [e8]
  (try simp only [e1,e3,e4,e5])
  clear e1 e2 e3 e4 e5 e6 e8
  generalize (p == [])=x1 at *
  generalize (vs.length == 0)=x2 at *
  generalize (rows.length == 0)=x3 at *
  generalize (rows.length == 1)=x4 at *
  generalize (lo == 0)=x5 at *
  generalize (hi == 0)=x6 at *
  have hk:k=1∨k=2∨k=3∨k=4∨k=5∨k=6∨k=7∨k=8∨k=9:=by omega
  rcases hk with rfl|rfl|rfl|rfl|rfl|rfl|rfl|rfl|rfl<;>first|(exfalso;omega)|(revert e7;revert x1 x2 x3 x4 x5 x6;decide))
theorem vN (s:Str) (hs:s.length≤9223372036854775807):Sem Tryz.prog 230 [.str s] (.bool (dJ s)):=by
 have hr:dJ s=(decide (s.length≤1000) && s.all fun c=>decide ((32:Int)≤c.toNat) && decide ((c.toNat:Int)≤126)):=rfl
 generalize dJ s=r at hr ⊢
 refine si [1000157] func230 ?_
 repeat'((conv=>whnf);first|(try(first|apply eN|apply eT|apply eC);conv=>whnf);apply sD;(focus(try intro hc;have hc0:=hc;(try simp only[aA]at hc);try refine aE ?_);first|exact aC)|apply rR|apply rE|apply rH| (apply cD<;>intro hb<;>(try simp only[aA]at hb)<;>try exact aM))
 all_goals try exact false
 refine aL (M:=fun t=>gF t [1000157]) hT hM (fun k:Nat => [(3,.int .i64 k)]) (fun k=>k≤s.length∧((s.take k).all fun c=>decide ((32:Int)≤c.toNat) && decide ((c.toNat:Int)≤126))=true) (fun k=>s.length - k) (0) ?_ ?_ ?_
 ·exact aV
 ·exact ⟨by omega,rfl⟩
 ·rintro k ⟨hk,hall⟩
  cases hx:s[k]? with
  |none=>
   have hn:=List.getElem?_eq_none_iff.1 hx
   rw [List.take_of_length_le hn] at hall
   repeat'((conv=>whnf);first|(try(first|apply eN|apply eT|apply eC);conv=>whnf);apply sD;(focus(try intro hc;have hc0:=hc;(try simp only[aA]at hc);try refine aE ?_);first|exact aC)|apply rR|apply rE|apply rH| (apply cD<;>intro hb<;>(try simp only[aA]at hb)<;>try exact aM))
   all_goals try exact false
   repeat' ((conv=>whnf);first|exact aI|with_reducible first|apply And.intro|apply oR|apply oN|apply dC)
   all_goals (conv=>whnf)
   refine aS ?_
   rw [hr,hall,Bool.and_true]
   exact decide_eq_decide.2 (by omega)
  |some x=>
   have hlt:=(bC hx)
   repeat'((conv=>whnf);first|(try(first|apply eN|apply eT|apply eC);conv=>whnf);apply sD;(focus(try intro hc;have hc0:=hc;(try simp only[aA]at hc);try refine aE ?_);first|exact aC)|apply rR|apply rE|apply rH| (apply cD<;>intro hb<;>(try simp only[aA]at hb)<;>try exact aM))
   all_goals try exact false
   ·repeat' ((conv=>whnf);first|exact aI|with_reducible first|apply And.intro|apply oR|apply oN|apply dC)
    all_goals (conv=>whnf)
    refine aS (Eq.symm ?_)
    simp [List.getD_eq_getElem?_getD,hx] at hb
    rw [hr,Bool.and_eq_false_iff]
    refine .inr ?_
    rw [List.all_eq_false]
    exact ⟨x,aK hx,by simp;omega⟩
   ·refine ⟨k+1,⟨by omega,?_⟩,by omega,?_⟩
    ·simp [List.getD_eq_getElem?_getD,hx] at hb
     rw [eZ hx,List.all_append,hall]
     simp
     omega
    ·exact aV
theorem zGc{p:Prop}(h:p:=by first|(refine gx (vN ?_ ?_)<;>exact pre)):p:=h
theorem nJ (vs:List Str) (hvs:∀ v ∈ vs,v.length≤9223372036854775807):Sem Tryz.prog 222 [.sl 0 1 (vs.map fun s => [.str s])] (.int .i64 (dX vs)):=by
 refine gU 0 rfl rfl fun hl => ?_
 rw [List.length_map] at hl
 have he:dX vs=if vs.length=0 then 9 else if 20 < vs.length then 2 else gT none vs:=rfl
 generalize dX vs=e at he ⊢
 refine si [1000157] func222 ?_
 repeat'((conv=>whnf);first|(try(first|apply eN|apply eI|apply eC);conv=>whnf);apply sD;(focus(try intro hc;have hc0:=hc;(try simp only[aA]at hc);try refine aE ?_);first|exact zGc|exact aC)|(first|apply dG|apply kB);kernel_rfl|apply rR|apply rE|apply rH| (apply cD<;>intro hb<;>(try simp only[aA]at hb)<;>try exact aM))
 all_goals try exact false
 ·repeat' ((conv=>whnf);first|exact aI|with_reducible first|apply And.intro|apply oR|apply oN|apply dC)
  all_goals (conv=>whnf)
  exact aJ (by rw [he,if_pos (by omega)])
 ·repeat' ((conv=>whnf);first|exact aI|with_reducible first|apply And.intro|apply oR|apply oN|apply dC)
  all_goals (conv=>whnf)
  exact aJ (by rw [he,if_neg (by omega),if_pos (by omega)])
 ·have he2:e=gT none vs:=by rw [he,if_neg (by omega),if_neg (by omega)]
  clear he
  refine aL (M:=fun t=>gF t [1000157]) hT hM (fun i:Nat => [(3,.int .i64 i)]) (fun i=>i≤vs.length∧gT (if i=0 then none else vs[i - 1]?) (vs.drop i)=e) (fun i=>vs.length - i) (0) ?_ ?_ ?_
  ·exact aV
  ·exact ⟨by omega,he2.symm⟩
  ·rintro i ⟨hi,hv⟩
   clear he2
   cases hx:vs[i]? with
   |none=>
    have hn:=List.getElem?_eq_none_iff.1 hx
    rw [List.drop_of_length_le hn] at hv
    repeat'((conv=>whnf);first|(try(first|apply eN|apply eI|apply eC);conv=>whnf);apply sD;(focus(try intro hc;have hc0:=hc;(try simp only[aA]at hc);try refine aE ?_);first|exact zGc|exact aC)|(first|apply dG|apply kB);kernel_rfl|apply rR|apply rE|apply rH| (apply cD<;>intro hb<;>(try simp only[aA]at hb)<;>try exact aM))
    all_goals try exact false
    repeat' ((conv=>whnf);first|exact aI|with_reducible first|apply And.intro|apply oR|apply oN|apply dC)
    all_goals (conv=>whnf)
    exact aJ hv
   |some s=>
    have hlt:=(bC hx)
    rw [zFp hx] at hv
    have ht:=vN s (hvs s (aK hx))
    generalize dJ s=t at ht hv
    by_cases hi0:i=0
    ·subst hi0
     repeat'((conv=>whnf);first|(try(first|apply eN|apply eI|apply eC);conv=>whnf);apply sD;(focus(try intro hc;have hc0:=hc;(try simp only[aA]at hc);try refine aE ?_);first|exact gx ht|exact zGc|exact aC)|(first|apply dG|apply kB);kernel_rfl|apply rR|apply rE|apply rH| (apply cD<;>intro hb<;>(try simp only[aA]at hb)<;>try exact aM))
     all_goals try exact false
     ·repeat' ((conv=>whnf);first|exact aI|with_reducible first|apply And.intro|apply oR|apply oN|apply dC)
      all_goals (conv=>whnf)
      rw [if_pos (by simp_all)] at hv
      exact aJ hv
     ·rw [if_neg (by simp_all),if_neg (by simp [fI])] at hv
      refine ⟨1,⟨by omega,by rw [if_neg (by omega)];rw [hx];exact hv⟩,by omega,?_⟩
      exact aV
    ·obtain ⟨q,hq⟩:∃ q,vs[i - 1]?=some q:=⟨vs[i - 1]'(by omega),by simp⟩
     rw [if_neg hi0,hq] at hv
     repeat'((conv=>whnf);first|(try(first|apply eN|apply eI|apply eC);conv=>whnf);apply sD;(focus(try intro hc;have hc0:=hc;(try simp only[aA]at hc);try refine aE ?_);first|exact gx ht|exact zGc|(exact aP hq (by omega))|exact aC)|(first|apply dG|apply kB);kernel_rfl|apply rR|apply rE|apply rH| (apply cD<;>intro hb<;>(try simp only[aA]at hb)<;>try exact aM))
     all_goals try exact false
     ·repeat' ((conv=>whnf);first|exact aI|with_reducible first|apply And.intro|apply oR|apply oN|apply dC)
      all_goals (conv=>whnf)
      rw [if_pos (by simp_all)] at hv
      exact aJ hv
     ·repeat' ((conv=>whnf);first|exact aI|with_reducible first|apply And.intro|apply oR|apply oN|apply dC)
      all_goals (conv=>whnf)
      rw [if_neg (by simp_all),if_pos (by simp [fI];simp_all)] at hv
      exact aJ hv
     ·rw [if_neg (by simp_all),if_neg (by simp [fI];simp_all)] at hv
      refine ⟨i+1,⟨by omega,by rw [if_neg (by omega),Nat.add_sub_cancel,hx];exact hv⟩,by omega,?_⟩
      exact aV
theorem hU (p:Str):Sem Tryz.prog 197 [.str p] (.int .i64 (bW p)):=by
 have h:=mU p
 rw [← zGJ]
 generalize vD p=r at h ⊢
 obtain ⟨w,e⟩:=r
 dsimp only at h ⊢
 unfold Wy.row at h
 refine si [3,1000157] func197 ?_
 repeat'((conv=>whnf);first|(try(first|apply eN|apply eI|apply eC);conv=>whnf);apply sD;(focus first|exact gx h|(refine gx (mU ?_)<;>exact pre)|exact bV)|apply rR|apply rE|apply rH| (apply cD<;>intro hb<;>(try simp only[aA]at hb)<;>try exact aM))
 all_goals try exact false
 exact aT
theorem iR (k:Int) (rows:List (List D)) (p:Str) (vs:List Str) (lo hi:Int) (hvs:∀ v ∈ vs,v.length≤9223372036854775807):Sem Tryz.prog 198 [.agg [.int .i64 k,.sl 0 6 rows,.str p,.sl 0 1 (vs.map fun s => [.str s]),.int .i64 lo,.int .i64 hi]] (.int .i64 (jL k rows.length p vs lo hi)):=by
 have h1:=hU p
 have h2:=fun a b=>zE k rows p (vs.map fun s => [.str s]) lo hi a b
 rw [List.length_map] at h2
 have h5:=iF k 1 9
 have h6:=gQ p
 rw [yF] at h6
 have h7:=nJ vs hvs
 have o1:=iF lo (-1000000000000) 1000000000000
 have o2:=iF hi (-1000000000000) 1000000000000
 have o3:=iF lo 0 1000000000
 have o4:=iF hi 0 1000000000
 have hr:jL k rows.length p vs lo hi=if k < 1∨9 < k then 4 else if oW k rows.length p vs.length lo hi=true then 3
  else if nY k=true then (if bH p ≠ 0 then bH p else if p = [] then 9 else 0)
  else if 4≤k∧bW p ≠ 0 then bW p
  else if k=5 then dX vs else if k=6∨k=9 then lC k lo hi else 0:=rfl
 generalize jL k rows.length p vs lo hi=r at hr ⊢
 unfold lC nY at hr
 generalize bW p=pe at h1 hr
 generalize bH p=ge at h6 hr
 generalize dX vs=ve at h7 hr
 generalize oW k rows.length p vs.length lo hi=fb at h2 hr
 refine si [1000157] func198 ?_
 repeat'((conv=>whnf);first|(try(first|apply eN|apply eI|apply eC);conv=>whnf);apply sD;(focus(try intro hc;have hc0:=hc;(try simp only[aA]at hc);try refine aE ?_);first|exact gx h1|(refine gx (h2 (by omega) (by omega))<;>exact pre)|exact gx h5|exact gx h6|exact gx h7|exact gx o1|exact gx o2|exact gx o3|exact gx o4|(refine gx (iF ?_ ?_ ?_)<;>exact pre)|(refine gx (zE ?_ ?_ ?_ ?_ ?_ ?_ ?_ ?_)<;>exact pre)|(refine gx (gQ ?_)<;>exact pre)|(refine gx (hU ?_)<;>exact pre)|(refine gx (nJ ?_ ?_)<;>exact pre)|exact aC)|apply rR|apply rE|apply rH| (apply cD<;>intro hb<;>(try simp only[aA]at hb)<;>try exact aM))
 all_goals try exact false
 all_goals (
  repeat' ((conv=>whnf);first|exact aI|with_reducible first|apply And.intro|apply oR|apply oN|apply dC)
  all_goals (conv=>whnf)
  refine aJ ?_
  rw [hr]
  clear h1 h2 h5 h6 h7 o1 o2 o3 o4 hr
  repeat' split
  all_goals first|omega|rfl|(simp_all;done)|(simp_all;omega))
end Go.Proofs.YtnjgoldinaffgaaGreatDoor
