/- Conditions are right: the reference's check (walks). -/
import Derived.Test.YtindehjiaknokaaGreatDoorZ37
namespace Go.Proofs.YtindehjiaknokaaGreatDoor
set_option linter.unusedSimpArgs false
set_option linter.unusedVariables false
open Go.RowKit
set_option maxRecDepth 100000
set_option maxHeartbeats 4000000
theorem formed_sem (k:Int) (rows:List (List D)) (p:Str) (vs:List (List D)) (lo hi:Int) (hk1:1≤k) (hk9:k≤9):Sem Tryz.prog 60 [.agg [.int .i64 k,.sl 0 6 rows,.str p,.sl 0 1 vs,.int .i64 lo,.int .i64 hi]] (.bool (!formB k rows.length p vs.length lo hi)):=by
 have hf:formB k rows.length p vs.length lo hi=((!usesOfB k && decide (0 < rows.length)) || (!decide (4≤k) && !(p == [])) || (!(k == 5) && decide (0 < vs.length)) || (!(k == 6 || k == 9) && (!(lo == 0) || !(hi == 0))) || (usesOfB k && (rows.length == 0 || ((k == 3 || overB k) && !(rows.length == 1))))):=rfl
 generalize formB k rows.length p vs.length lo hi=r at hf ⊢
 unfold usesOfB overB at hf
 have e1:((vs.length:Int) == 0)=(vs.length == 0):=by rw [Bool.eq_iff_iff];simp
 have e2:decide (0 < vs.length) = !(vs.length == 0):=by cases vs<;>simp
 have e3:((rows.length:Int) == 0)=(rows.length == 0):=by rw [Bool.eq_iff_iff];simp
 have e6:decide (0 < rows.length) = !(rows.length == 0):=by cases rows<;>simp
 have e4:decide (0 < (rows.length:Int)) = !(rows.length == 0):=by rw [← e6];exact decide_eq_decide.2 (by omega)
 have e5:((rows.length:Int) == 1)=(rows.length == 1):=by rw [Bool.eq_iff_iff];simp;omega
 have e7:(rows.length == 0)=true→(rows.length == 1)=false:=fun h=>by rw [beq_iff_eq.1 h];rfl
 have e8:(p == ({ data := #[] }:ByteArray).data.toList)=(p == []):=rfl
 rw [e2,e6] at hf
 refine si [1000016] Tryz.func60 ?_
 repeat'((conv=>whnf);first|(try(first|apply eN|apply eI|apply eC);conv=>whnf);apply sD;(focus(try intro hc;have hc0:=hc;(try simp only[SPLT]at hc);try refine and0 ?_);first|exact sideG)|(first|apply dG|apply kB);kernel_rfl|apply rR|apply rE|apply rH| (apply cD<;>intro hb<;>(try simp only[SPLT]at hb)<;>try exact noB))
 all_goals try exact false
 all_goals (
  repeat' ((conv=>whnf);first|exact endR|with_reducible first|apply And.intro|apply oR|apply oN|apply dC)
  all_goals (conv=>whnf)
  refine rle_bool ?_
  rw [hf]
  clear hf
  try rw [e8]
  (try simp only [e1,e3,e4,e5])
  clear e1 e2 e3 e4 e5 e6 e8
  generalize (p == [])=x1 at *
  generalize (vs.length == 0)=x2 at *
  generalize (rows.length == 0)=x3 at *
  generalize (rows.length == 1)=x4 at *
  generalize (lo == 0)=x5 at *
  generalize (hi == 0)=x6 at *
  have hk:k=1∨k=2∨k=3∨k=4∨k=5∨k=6∨k=7∨k=8∨k=9:=by omega
  rcases hk with rfl|rfl|rfl|rfl|rfl|rfl|rfl|rfl|rfl<;>first|(exfalso;omega)|(revert e7;revert x1 x2 x3 x4 x5 x6;decide))
theorem isText4_sem (s:Str) (hs:s.length≤9223372036854775807):Sem Tryz.prog 85 [.str s] (.bool (textB s)):=by
 have hr:textB s=(decide (s.length≤1000) && s.all fun c=>decide ((32:Int)≤c.toNat) && decide ((c.toNat:Int)≤126)):=rfl
 generalize textB s=r at hr ⊢
 refine si [1000016] Tryz.func85 ?_
 repeat'((conv=>whnf);first|(try(first|apply eN|apply eC);conv=>whnf);apply sD;(focus(try intro hc;have hc0:=hc;(try simp only[SPLT]at hc);try refine and0 ?_);first|exact sideG)|apply rR|apply rE|apply rH| (apply cD<;>intro hb<;>(try simp only[SPLT]at hb)<;>try exact noB))
 all_goals try exact false
 refine loop_go (M:=fun t=>mem t [1000016]) hT hM (fun k:Nat => [(3,.int .i64 k)]) (fun k=>k≤s.length∧((s.take k).all fun c=>decide ((32:Int)≤c.toNat) && decide ((c.toNat:Int)≤126))=true) (fun k=>s.length - k) (0) ?_ ?_ ?_
 ·exact finF
 ·exact ⟨by omega,rfl⟩
 ·rintro k ⟨hk,hall⟩
  cases hx:s[k]? with
  |none=>
   have hn:=List.getElem?_eq_none_iff.1 hx
   rw [List.take_of_length_le hn] at hall
   repeat'((conv=>whnf);first|(try(first|apply eN|apply eC);conv=>whnf);apply sD;(focus(try intro hc;have hc0:=hc;(try simp only[SPLT]at hc);try refine and0 ?_);first|exact sideG)|apply rR|apply rE|apply rH| (apply cD<;>intro hb<;>(try simp only[SPLT]at hb)<;>try exact noB))
   all_goals try exact false
   repeat' ((conv=>whnf);first|exact endR|with_reducible first|apply And.intro|apply oR|apply oN|apply dC)
   all_goals (conv=>whnf)
   refine rle_bool ?_
   rw [hr,hall,Bool.and_true]
   exact decide_eq_decide.2 (by omega)
  |some x=>
   have hlt:=(gLt hx)
   repeat'((conv=>whnf);first|(try(first|apply eN|apply eC);conv=>whnf);apply sD;(focus(try intro hc;have hc0:=hc;(try simp only[SPLT]at hc);try refine and0 ?_);first|exact sideG)|apply rR|apply rE|apply rH| (apply cD<;>intro hb<;>(try simp only[SPLT]at hb)<;>try exact noB))
   all_goals try exact false
   ·repeat' ((conv=>whnf);first|exact endR|with_reducible first|apply And.intro|apply oR|apply oN|apply dC)
    all_goals (conv=>whnf)
    refine rle_bool (Eq.symm ?_)
    simp [List.getD_eq_getElem?_getD,hx] at hb
    rw [hr,Bool.and_eq_false_iff]
    refine .inr ?_
    rw [List.all_eq_false]
    exact ⟨x,gMem hx,by simp;omega⟩
   ·refine ⟨k+1,⟨by omega,?_⟩,by omega,?_⟩
    ·simp [List.getD_eq_getElem?_getD,hx] at hb
     rw [take_at hx,List.all_append,hall]
     simp
     omega
    ·exact finF
theorem checkValues_sem (vs:List Str) (hvs:∀ v ∈ vs,v.length≤9223372036854775807):Sem Tryz.prog 63 [.sl 0 1 (vs.map fun s => [.str s])] (.int .i64 (valuesErr vs)):=by
 refine sem_len 0 rfl rfl fun hl => ?_
 rw [List.length_map] at hl
 have he:valuesErr vs=if vs.length=0 then 9 else if 20 < vs.length then 2 else valsErr none vs:=rfl
 generalize valuesErr vs=e at he ⊢
 refine si [1000016] Tryz.func63 ?_
 repeat'((conv=>whnf);first|(try(first|apply eN|apply eI|apply eC);conv=>whnf);apply sD;(focus(try intro hc;have hc0:=hc;(try simp only[SPLT]at hc);try refine and0 ?_);first|(refine gx (isText4_sem ?_ ?_)<;>exact pre)|exact sideG)|(first|apply dG|apply kB);kernel_rfl|apply rR|apply rE|apply rH| (apply cD<;>intro hb<;>(try simp only[SPLT]at hb)<;>try exact noB))
 all_goals try exact false
 ·repeat' ((conv=>whnf);first|exact endR|with_reducible first|apply And.intro|apply oR|apply oN|apply dC)
  all_goals (conv=>whnf)
  exact rle_int (by rw [he,if_pos (by omega)])
 ·repeat' ((conv=>whnf);first|exact endR|with_reducible first|apply And.intro|apply oR|apply oN|apply dC)
  all_goals (conv=>whnf)
  exact rle_int (by rw [he,if_neg (by omega),if_pos (by omega)])
 ·have he2:e=valsErr none vs:=by rw [he,if_neg (by omega),if_neg (by omega)]
  clear he
  refine loop_go (M:=fun t=>mem t [1000016]) hT hM (fun i:Nat => [(3,.int .i64 i)]) (fun i=>i≤vs.length∧valsErr (if i=0 then none else vs[i - 1]?) (vs.drop i)=e) (fun i=>vs.length - i) (0) ?_ ?_ ?_
  ·exact finF
  ·exact ⟨by omega,he2.symm⟩
  ·rintro i ⟨hi,hv⟩
   clear he2
   cases hx:vs[i]? with
   |none=>
    have hn:=List.getElem?_eq_none_iff.1 hx
    rw [List.drop_of_length_le hn] at hv
    repeat'((conv=>whnf);first|(try(first|apply eN|apply eI|apply eC);conv=>whnf);apply sD;(focus(try intro hc;have hc0:=hc;(try simp only[SPLT]at hc);try refine and0 ?_);first|(refine gx (isText4_sem ?_ ?_)<;>exact pre)|exact sideG)|(first|apply dG|apply kB);kernel_rfl|apply rR|apply rE|apply rH| (apply cD<;>intro hb<;>(try simp only[SPLT]at hb)<;>try exact noB))
    all_goals try exact false
    repeat' ((conv=>whnf);first|exact endR|with_reducible first|apply And.intro|apply oR|apply oN|apply dC)
    all_goals (conv=>whnf)
    exact rle_int hv
   |some s=>
    have hlt:=(gLt hx)
    rw [vals_at hx] at hv
    have ht:=isText4_sem s (hvs s (gMem hx))
    generalize textB s=t at ht hv
    by_cases hi0:i=0
    ·subst hi0
     repeat'((conv=>whnf);first|(try(first|apply eN|apply eI|apply eC);conv=>whnf);apply sD;(focus(try intro hc;have hc0:=hc;(try simp only[SPLT]at hc);try refine and0 ?_);first|exact gx ht|(refine gx (isText4_sem ?_ ?_)<;>exact pre)|exact sideG)|(first|apply dG|apply kB);kernel_rfl|apply rR|apply rE|apply rH| (apply cD<;>intro hb<;>(try simp only[SPLT]at hb)<;>try exact noB))
     all_goals try exact false
     ·repeat' ((conv=>whnf);first|exact endR|with_reducible first|apply And.intro|apply oR|apply oN|apply dC)
      all_goals (conv=>whnf)
      rw [if_pos (by simp_all)] at hv
      exact rle_int hv
     ·rw [if_neg (by simp_all),if_neg (by simp [prevB])] at hv
      refine ⟨1,⟨by omega,by rw [if_neg (by omega)];rw [hx];exact hv⟩,by omega,?_⟩
      exact finF
    ·obtain ⟨q,hq⟩:∃ q,vs[i - 1]?=some q:=⟨vs[i - 1]'(by omega),by simp⟩
     rw [if_neg hi0,hq] at hv
     repeat'((conv=>whnf);first|(try(first|apply eN|apply eI|apply eC);conv=>whnf);apply sD;(focus(try intro hc;have hc0:=hc;(try simp only[SPLT]at hc);try refine and0 ?_);first|exact gx ht|(refine gx (isText4_sem ?_ ?_)<;>exact pre)|(exact idx_eq hq (by omega))|exact sideG)|(first|apply dG|apply kB);kernel_rfl|apply rR|apply rE|apply rH| (apply cD<;>intro hb<;>(try simp only[SPLT]at hb)<;>try exact noB))
     all_goals try exact false
     ·repeat' ((conv=>whnf);first|exact endR|with_reducible first|apply And.intro|apply oR|apply oN|apply dC)
      all_goals (conv=>whnf)
      rw [if_pos (by simp_all)] at hv
      exact rle_int hv
     ·repeat' ((conv=>whnf);first|exact endR|with_reducible first|apply And.intro|apply oR|apply oN|apply dC)
      all_goals (conv=>whnf)
      rw [if_neg (by simp_all),if_pos (by simp [prevB];simp_all)] at hv
      exact rle_int hv
     ·rw [if_neg (by simp_all),if_neg (by simp [prevB];simp_all)] at hv
      refine ⟨i+1,⟨by omega,by rw [if_neg (by omega),Nat.add_sub_cancel,hx];exact hv⟩,by omega,?_⟩
      exact finF
theorem checkPath3_sem (p:Str):Sem Tryz.prog 62 [.str p] (.int .i64 (pathErr p)):=by
 have h:=pathOf_sem p
 rw [← pathN_err]
 generalize pathN p=r at h ⊢
 obtain ⟨w,e⟩:=r
 dsimp only at h ⊢
 unfold Wy.row at h
 refine si [3,1000016] Tryz.func62 ?_
 repeat'((conv=>whnf);first|(try(first|apply eN|apply eI|apply eC);conv=>whnf);apply sD;(focus first|exact gx h|(refine gx (pathOf_sem ?_)<;>exact pre)|exact side)|apply rR|apply rE|apply rH| (apply cD<;>intro hb<;>(try simp only[SPLT]at hb)<;>try exact noB))
 all_goals try exact false
 exact finR
theorem checkNode_sem (k:Int) (rows:List (List D)) (p:Str) (vs:List Str) (lo hi:Int) (hvs:∀ v ∈ vs,v.length≤9223372036854775807):Sem Tryz.prog 29 [.agg [.int .i64 k,.sl 0 6 rows,.str p,.sl 0 1 (vs.map fun s => [.str s]),.int .i64 lo,.int .i64 hi]] (.int .i64 (ownErr k rows.length p vs lo hi)):=by
 have h1:=checkPath3_sem p
 have h2:=fun a b=>formed_sem k rows p (vs.map fun s => [.str s]) lo hi a b
 rw [List.length_map] at h2
 have h5:=within_sem k 1 9
 have h6:=NamesOf_sem p
 rw [namesN_err] at h6
 have h7:=checkValues_sem vs hvs
 have o1:=within_sem lo (-1000000000000) 1000000000000
 have o2:=within_sem hi (-1000000000000) 1000000000000
 have o3:=within_sem lo 0 1000000000
 have o4:=within_sem hi 0 1000000000
 have hr:ownErr k rows.length p vs lo hi=if k < 1∨9 < k then 4 else if formB k rows.length p vs.length lo hi=true then 3
  else if overB k=true then (if groupsErr p ≠ 0 then groupsErr p else if p = [] then 9 else 0)
  else if 4≤k∧pathErr p ≠ 0 then pathErr p
  else if k=5 then valuesErr vs else if k=6∨k=9 then endsErr k lo hi else 0:=rfl
 generalize ownErr k rows.length p vs lo hi=r at hr ⊢
 unfold endsErr overB at hr
 generalize pathErr p=pe at h1 hr
 generalize groupsErr p=ge at h6 hr
 generalize valuesErr vs=ve at h7 hr
 generalize formB k rows.length p vs.length lo hi=fb at h2 hr
 refine si [1000016] Tryz.func29 ?_
 repeat'((conv=>whnf);first|(try(first|apply eN|apply eI|apply eC);conv=>whnf);apply sD;(focus(try intro hc;have hc0:=hc;(try simp only[SPLT]at hc);try refine and0 ?_);first|exact gx h1|(refine gx (h2 (by omega) (by omega))<;>exact pre)|exact gx h5|exact gx h6|exact gx h7|exact gx o1|exact gx o2|exact gx o3|exact gx o4|(refine gx (within_sem ?_ ?_ ?_)<;>exact pre)|(refine gx (formed_sem ?_ ?_ ?_ ?_ ?_ ?_ ?_ ?_)<;>exact pre)|(refine gx (NamesOf_sem ?_)<;>exact pre)|(refine gx (checkPath3_sem ?_)<;>exact pre)|(refine gx (checkValues_sem ?_ ?_)<;>exact pre)|exact sideG)|apply rR|apply rE|apply rH| (apply cD<;>intro hb<;>(try simp only[SPLT]at hb)<;>try exact noB))
 all_goals try exact false
 all_goals (
  repeat' ((conv=>whnf);first|exact endR|with_reducible first|apply And.intro|apply oR|apply oN|apply dC)
  all_goals (conv=>whnf)
  refine rle_int ?_
  rw [hr]
  clear h1 h2 h5 h6 h7 o1 o2 o3 o4 hr
  repeat' split
  all_goals first|omega|rfl|(simp_all;done)|(simp_all;omega))
end Go.Proofs.YtindehjiaknokaaGreatDoor
