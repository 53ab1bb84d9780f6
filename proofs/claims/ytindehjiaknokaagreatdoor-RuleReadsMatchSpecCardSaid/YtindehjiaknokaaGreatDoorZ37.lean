/- Paths: the reference reads one (walks). -/
import Derived.Test.YtindehjiaknokaaGreatDoorZ19
namespace Go.Proofs.YtindehjiaknokaaGreatDoor
set_option linter.unusedSimpArgs false
set_option linter.unusedVariables false
open Go.RowKit
set_option maxRecDepth 100000
set_option maxHeartbeats 20000000
def idl84_10:List (List Bool) := [[b0,b0,b0,b0,b0,b0,b0,b0,b0,b0],[b1,b0,b0,b0,b0,b0,b0,b0,b0,b0],[b0,b0,b1,b0,b0,b0,b0,b0,b0,b0],[b0,b0,b0,b1,b0,b0,b0,b0,b0,b0],[b1,b1,b0,b0,b0,b0,b0,b0,b0,b0],[b1,b0,b1,b0,b0,b0,b0,b0,b0,b0],[b1,b0,b0,b1,b0,b0,b0,b0,b0,b0],[b0,b0,b1,b1,b0,b0,b0,b0,b0,b0],[b1,b1,b1,b0,b0,b0,b0,b0,b0,b0],[b1,b1,b0,b1,b0,b0,b0,b0,b0,b0],[b1,b0,b1,b1,b0,b0,b0,b0,b0,b0],[b0,b0,b1,b1,b1,b0,b0,b0,b0,b0],[b1,b1,b1,b1,b0,b0,b0,b0,b0,b0],[b1,b0,b1,b1,b1,b0,b0,b0,b0,b0],[b0,b0,b1,b1,b1,b1,b0,b0,b0,b0],[b1,b1,b1,b1,b1,b0,b0,b0,b0,b0],[b1,b0,b1,b1,b1,b1,b0,b0,b0,b0],[b0,b0,b1,b1,b1,b1,b1,b0,b0,b0],[b1,b1,b1,b1,b1,b1,b0,b0,b0,b0],[b1,b0,b1,b1,b1,b1,b1,b0,b0,b0],[b1,b1,b1,b1,b1,b1,b1,b0,b0,b0],[b1,b1,b1,b1,b1,b1,b1,b1,b0,b0],[b1,b1,b1,b1,b1,b1,b1,b1,b1,b0],[b1,b1,b1,b1,b1,b1,b1,b1,b1,b1]]
def pathN (p:Str):Wy × Int:=if 200 < p.length then (zW,2) else if (wayN p).2=true then ((wayN p).1,0) else (zW,10)
theorem pathN_err (p:Str):(pathN p).2=pathErr p:=by
 unfold pathN pathErr
 split
 ·rfl
 ·split<;>rfl
def cellS (l:List Str):Nat→D
 |0=>.nil
 |i+1=>.sl 2 1 ((l.take (i+1)).map fun s => [.str s])
theorem cells_next {l:List Str} {i:Nat} {a:Str} (h:l[i]?=some a):cellS l (i+1)=.sl 2 1 (((l.take i).map fun s => [.str s]) ++ [[.str a]]):=by
 rw [cellS,take_at h,List.map_append]
 rfl
theorem pathOf_sem (p:Str):Sem Tryz.prog 84 [.str p] (.tup [.agg (pathN p).1.row,.int .i64 (pathN p).2]):=by
 unfold pathN
 by_cases hp:200 < p.length
 ·rw [if_pos hp]
  unfold zW Wy.row
  refine si [2,5,4000005] Tryz.func84 ?_
  repeat'((conv=>whnf);first|(try(first|apply eN|apply eI|apply eC);conv=>whnf);apply sD;(focus(try intro hc;have hc0:=hc;(try simp only[SPLT]at hc);try refine and0 ?_);first|(refine gx (split_sem ?_ ?_ ?_)<;>exact pre)|(refine gx (isName2_sem ?_ ?_)<;>exact pre)|(refine gx (isTag2_sem ?_ ?_)<;>exact pre)|(refine gx (small_sem ?_ ?_ ?_)<;>exact pre)|exact sideG)|(first|apply dG|apply kB);kernel_rfl|apply rR|apply rE|apply rH| (apply cD<;>intro hb<;>(try simp only[SPLT]at hb)<;>try exact noB))
  all_goals try exact false
  repeat' ((conv=>whnf);first|exact endR|with_reducible first|apply And.intro|apply oR|apply oN|apply dC)
  all_goals (conv=>whnf)
  (first|refine rle_agg ?_|refine dle_agg ?_|skip)
  repeat' (first|exact endF|exact endF2|with_reducible apply dC|with_reducible apply dle_agg)
 ·rw [if_neg hp]
  have h1:=(split_sem p 47 (by omega)).frozen
  have hl:=parts_len (c:=47) p
  have hne:=parts_ne (c:=47) p
  have hm:∀ a ∈ partsAt 47 p,a.length≤200:=fun a ha=>by have:=part_le ha;omega
  unfold wayN
  generalize partsAt 47 p=l at h1 hl hne hm ⊢
  have hll:(l.map fun s => [D.str s]).length=l.length:=List.length_map _
  obtain ⟨m,hlm⟩:∃ m,l.length=m+1:=⟨l.length - 1,by have:=List.length_pos_iff.2 hne;omega⟩
  rw [List.dropLast_eq_take,hlm,Nat.add_sub_cancel,List.getLast?_eq_getElem?,hlm,Nat.add_sub_cancel]
  obtain ⟨q,hq⟩:∃ q,l[m]?=some q:=⟨l[m],by simp⟩
  rw [hq,Option.getD_some]
  have hql:=hm q (gMem hq)
  have h2:=(split_sem q 46 (by omega)).frozen
  have h3:∀ a ∈ partsAt 46 q,Sem Tryz.prog 106 [.str a] (.bool (isTagB a)):=fun a ha=>isTag2_sem a (by have:=part_le ha;omega)
  have h4:∀ a ∈ partsAt 46 q,∀ m,Sem Tryz.prog 107 [.str a,.int .i64 m] (.tup [.int .i64 (numN a).1,.bool (numB a m)]):=fun a ha m=>small_sem a m (by have:=part_le ha;omega)
  have h5:=parts_ne (c:=46) q
  have h6:=parts_len (c:=46) q
  generalize partsAt 46 q=l2 at h2 h3 h4 h5 h6 ⊢
  have hN:∀ a ∈ l,Sem Tryz.prog 83 [.str a] (.bool (isNameB a)):=fun a ha=>isName2_sem a (by have:=hm a ha;omega)
  generalize hr:(if (if (l.take m).all isNameB=true then tailN (l.take m) l2 else (zW,false)).2=true then ((if (l.take m).all isNameB=true then tailN (l.take m) l2 else (zW,false)).1,(0:Int)) else (zW,10))=r
  refine si [2,5,4000005,5000010] Tryz.func84 ?_
  repeat'((conv=>whnf);first|((with_reducible apply DrawI.at 30 idl84_10);exact rfl;kernel_rfl)|with_reducible apply ExE.go|((with_reducible apply EqF.mk);exact rfl)|with_reducible apply AndI.mk|with_reducible exact trivial|(try(first|apply eN|apply eI|apply eC);conv=>whnf);apply sD;(focus(try intro hc;have hc0:=hc;(try simp only[SPLT]at hc);try refine and0 ?_);first|exact gx h1|(refine gx (split_sem ?_ ?_ ?_)<;>exact pre)|(refine gx (isName2_sem ?_ ?_)<;>exact pre)|(refine gx (isTag2_sem ?_ ?_)<;>exact pre)|(refine gx (small_sem ?_ ?_ ?_)<;>exact pre)|exact sideG)|(first|apply dG|apply kB);kernel_rfl|apply rR|apply rE|apply rH| (apply cD<;>intro hb<;>(try simp only[SPLT]at hb)<;>try exact noB))
  all_goals try exact false
  refine loop_go (M:=fun t=>mem t [2,5,4000005,5000010]) hT hM (fun i:Nat => [(6,.int .i64 i),(5,.obj [cellS l i,.str [],.int .i64 0,.int .i64 0])]) (fun i=>i≤m∧(l.take i).all isNameB=true) (fun i=>m - i) (0) ?_ ?_ ?_
  ·exact finF
  ·exact ⟨by omega,rfl⟩
  ·rintro i ⟨hi,hall⟩
   rcases Nat.lt_or_ge i m with hlt|hge
   ·obtain ⟨a,ha⟩:∃ a,l[i]?=some a:=⟨l[i],by simp⟩
    have hna:=hN a (gMem ha)
    have hb1:isNameB a=false→(l.take m).all isNameB=false:=fun h=>by
     rw [List.all_eq_false]
     exact ⟨a,List.mem_take_iff_getElem.2 ⟨i,by omega,(List.getElem?_eq_some_iff.1 ha).2⟩,by simp [h]⟩
    have hb2:isNameB a=true→(l.take (i+1)).all isNameB=true:=fun h=>by
     rw [take_at ha,List.all_append,hall]
     simp [h]
    generalize isNameB a=b at hna hb1 hb2
    rcases i with _|i
    ·repeat'((conv=>whnf);first|((with_reducible apply DrawI.at 30 idl84_10);exact rfl;kernel_rfl)|with_reducible apply ExE.go|((with_reducible apply EqF.mk);exact rfl)|with_reducible apply AndI.mk|with_reducible exact trivial|(try(first|apply eN|apply eI|apply eC);conv=>whnf);apply sD;(focus(try intro hc;have hc0:=hc;(try simp only[SPLT]at hc);try refine and0 ?_);first|exact gx hna|(refine gx (split_sem ?_ ?_ ?_)<;>exact pre)|(refine gx (isName2_sem ?_ ?_)<;>exact pre)|(refine gx (isTag2_sem ?_ ?_)<;>exact pre)|(refine gx (small_sem ?_ ?_ ?_)<;>exact pre)|exact sideG)|(first|apply dG|apply kB);kernel_rfl|apply rR|apply rE|apply rH| (apply cD<;>intro hb<;>(try simp only[SPLT]at hb)<;>try exact noB))
     all_goals try exact false
     ·rw [hb1 (by simp_all)] at hr
      replace hr:(zW,(10:Int))=r:=hr
      subst hr
      repeat' ((conv=>whnf);first|exact endR|with_reducible first|apply And.intro|apply oR|apply oN|apply dC)
      all_goals (conv=>whnf)
      simp only [zW,Wy.row]
      (first|refine rle_agg ?_|refine dle_agg ?_|skip)
      repeat' (first|exact endF|exact endF2|with_reducible apply dC|with_reducible apply dle_agg)
     ·refine ⟨1,⟨by omega,hb2 (by simp_all)⟩,by omega,?_⟩
      (conv=>whnf)
      refine ⟨?_,by rfl⟩
      repeat' ((conv=>whnf);first|exact endF|((rw [cells_next ha];exact DLe.refl _))|exact endF2|with_reducible apply dC)
    ·repeat'((conv=>whnf);first|((with_reducible apply DrawI.at 30 idl84_10);exact rfl;kernel_rfl)|with_reducible apply ExE.go|((with_reducible apply EqF.mk);exact rfl)|with_reducible apply AndI.mk|with_reducible exact trivial|(try(first|apply eN|apply eI|apply eC);conv=>whnf);apply sD;(focus(try intro hc;have hc0:=hc;(try simp only[SPLT]at hc);try refine and0 ?_);first|exact gx hna|(refine gx (split_sem ?_ ?_ ?_)<;>exact pre)|(refine gx (isName2_sem ?_ ?_)<;>exact pre)|(refine gx (isTag2_sem ?_ ?_)<;>exact pre)|(refine gx (small_sem ?_ ?_ ?_)<;>exact pre)|exact sideG)|(first|apply dG|apply kB);kernel_rfl|apply rR|apply rE|apply rH| (apply cD<;>intro hb<;>(try simp only[SPLT]at hb)<;>try exact noB))
     all_goals try exact false
     ·rw [hb1 (by simp_all)] at hr
      replace hr:(zW,(10:Int))=r:=hr
      subst hr
      repeat' ((conv=>whnf);first|exact endR|with_reducible first|apply And.intro|apply oR|apply oN|apply dC)
      all_goals (conv=>whnf)
      simp only [zW,Wy.row]
      (first|refine rle_agg ?_|refine dle_agg ?_|skip)
      repeat' (first|exact endF|exact endF2|with_reducible apply dC|with_reducible apply dle_agg)
     ·refine ⟨i+1+1,⟨by omega,hb2 (by simp_all)⟩,by omega,?_⟩
      (conv=>whnf)
      refine ⟨?_,by rfl⟩
      repeat' ((conv=>whnf);first|exact endF|((rw [cells_next ha];exact DLe.refl _))|exact endF2|with_reducible apply dC)
   ·obtain rfl:i=m:=by omega
    rw [if_pos hall] at hr
    generalize hns:l.take i=ns at hr
    rcases i with _|i
    ·obtain rfl : []=ns:=hns
     rcases l2 with _|⟨a,_|⟨b,_|⟨c,_|⟨d,t⟩⟩⟩⟩
     ·exact absurd rfl h5
     ·have ha:=h3 a (by simp)
      rw [tailN] at hr
      generalize isTagB a=q1 at ha hr
      cases q1
      ·repeat'((conv=>whnf);first|((with_reducible apply DrawI.at 30 idl84_10);exact rfl;kernel_rfl)|with_reducible apply ExE.go|((with_reducible apply EqF.mk);exact rfl)|with_reducible apply AndI.mk|with_reducible exact trivial|(try(first|apply eN|apply eI|apply eC);conv=>whnf);apply sD;(focus(try intro hc;have hc0:=hc;(try simp only[SPLT]at hc);try refine and0 ?_);first|exact gx h2|exact gx ha|(refine gx (split_sem ?_ ?_ ?_)<;>exact pre)|(refine gx (isName2_sem ?_ ?_)<;>exact pre)|(refine gx (isTag2_sem ?_ ?_)<;>exact pre)|(refine gx (small_sem ?_ ?_ ?_)<;>exact pre)|(exact idx_eq hq (by omega))|exact sideG)|(first|apply dG|apply kB);kernel_rfl|apply rR|apply rE|apply rH| (apply cD<;>intro hb<;>(try simp only[SPLT]at hb)<;>try exact noB))
       all_goals try exact false
       replace hr:(zW,(10:Int))=r:=hr
       subst hr
       repeat' ((conv=>whnf);first|exact endR|with_reducible first|apply And.intro|apply oR|apply oN|apply dC)
       all_goals (conv=>whnf)
       simp only [zW,Wy.row,List.map_nil]
       (first|refine rle_agg ?_|refine dle_agg ?_|skip)
       repeat' (first|exact endF|exact endF2|with_reducible apply dC|with_reducible apply dle_agg)
      ·repeat'((conv=>whnf);first|((with_reducible apply DrawI.at 30 idl84_10);exact rfl;kernel_rfl)|with_reducible apply ExE.go|((with_reducible apply EqF.mk);exact rfl)|with_reducible apply AndI.mk|with_reducible exact trivial|(try(first|apply eN|apply eI|apply eC);conv=>whnf);apply sD;(focus(try intro hc;have hc0:=hc;(try simp only[SPLT]at hc);try refine and0 ?_);first|exact gx h2|exact gx ha|(refine gx (split_sem ?_ ?_ ?_)<;>exact pre)|(refine gx (isName2_sem ?_ ?_)<;>exact pre)|(refine gx (isTag2_sem ?_ ?_)<;>exact pre)|(refine gx (small_sem ?_ ?_ ?_)<;>exact pre)|(exact idx_eq hq (by omega))|exact sideG)|(first|apply dG|apply kB);kernel_rfl|apply rR|apply rE|apply rH| (apply cD<;>intro hb<;>(try simp only[SPLT]at hb)<;>try exact noB))
       all_goals try exact false
       replace hr:(([],a,0,0),(0:Int))=r:=hr
       subst hr
       repeat' ((conv=>whnf);first|exact endR|with_reducible first|apply And.intro|apply oR|apply oN|apply dC)
       all_goals (conv=>whnf)
       simp only [zW,Wy.row,List.map_nil]
       (first|refine rle_agg ?_|refine dle_agg ?_|skip)
       repeat' (first|exact endF|exact endF2|with_reducible apply dC|with_reducible apply dle_agg)
     ·have ha:=h3 a (by simp)
      have hb1:=h4 b (by simp) 50
      rw [tailN] at hr
      generalize isTagB a=q1 at ha hr
      generalize numN b=nb at hb1 hr
      generalize numB b 50=ob at hb1 hr
      cases q1<;>cases ob
      ·repeat'((conv=>whnf);first|((with_reducible apply DrawI.at 30 idl84_10);exact rfl;kernel_rfl)|with_reducible apply ExE.go|((with_reducible apply EqF.mk);exact rfl)|with_reducible apply AndI.mk|with_reducible exact trivial|(try(first|apply eN|apply eI|apply eC);conv=>whnf);apply sD;(focus(try intro hc;have hc0:=hc;(try simp only[SPLT]at hc);try refine and0 ?_);first|exact gx h2|exact gx ha|exact gx hb1|(refine gx (split_sem ?_ ?_ ?_)<;>exact pre)|(refine gx (isName2_sem ?_ ?_)<;>exact pre)|(refine gx (isTag2_sem ?_ ?_)<;>exact pre)|(refine gx (small_sem ?_ ?_ ?_)<;>exact pre)|(exact idx_eq hq (by omega))|exact sideG)|(first|apply dG|apply kB);kernel_rfl|apply rR|apply rE|apply rH| (apply cD<;>intro hb<;>(try simp only[SPLT]at hb)<;>try exact noB))
       all_goals try exact false
       replace hr:(zW,(10:Int))=r:=hr
       subst hr
       repeat' ((conv=>whnf);first|exact endR|with_reducible first|apply And.intro|apply oR|apply oN|apply dC)
       all_goals (conv=>whnf)
       simp only [zW,Wy.row,List.map_nil]
       (first|refine rle_agg ?_|refine dle_agg ?_|skip)
       repeat' (first|exact endF|exact endF2|with_reducible apply dC|with_reducible apply dle_agg)
      ·repeat'((conv=>whnf);first|((with_reducible apply DrawI.at 30 idl84_10);exact rfl;kernel_rfl)|with_reducible apply ExE.go|((with_reducible apply EqF.mk);exact rfl)|with_reducible apply AndI.mk|with_reducible exact trivial|(try(first|apply eN|apply eI|apply eC);conv=>whnf);apply sD;(focus(try intro hc;have hc0:=hc;(try simp only[SPLT]at hc);try refine and0 ?_);first|exact gx h2|exact gx ha|exact gx hb1|(refine gx (split_sem ?_ ?_ ?_)<;>exact pre)|(refine gx (isName2_sem ?_ ?_)<;>exact pre)|(refine gx (isTag2_sem ?_ ?_)<;>exact pre)|(refine gx (small_sem ?_ ?_ ?_)<;>exact pre)|(exact idx_eq hq (by omega))|exact sideG)|(first|apply dG|apply kB);kernel_rfl|apply rR|apply rE|apply rH| (apply cD<;>intro hb<;>(try simp only[SPLT]at hb)<;>try exact noB))
       all_goals try exact false
       replace hr:(zW,(10:Int))=r:=hr
       subst hr
       repeat' ((conv=>whnf);first|exact endR|with_reducible first|apply And.intro|apply oR|apply oN|apply dC)
       all_goals (conv=>whnf)
       simp only [zW,Wy.row,List.map_nil]
       (first|refine rle_agg ?_|refine dle_agg ?_|skip)
       repeat' (first|exact endF|exact endF2|with_reducible apply dC|with_reducible apply dle_agg)
      ·repeat'((conv=>whnf);first|((with_reducible apply DrawI.at 30 idl84_10);exact rfl;kernel_rfl)|with_reducible apply ExE.go|((with_reducible apply EqF.mk);exact rfl)|with_reducible apply AndI.mk|with_reducible exact trivial|(try(first|apply eN|apply eI|apply eC);conv=>whnf);apply sD;(focus(try intro hc;have hc0:=hc;(try simp only[SPLT]at hc);try refine and0 ?_);first|exact gx h2|exact gx ha|exact gx hb1|(refine gx (split_sem ?_ ?_ ?_)<;>exact pre)|(refine gx (isName2_sem ?_ ?_)<;>exact pre)|(refine gx (isTag2_sem ?_ ?_)<;>exact pre)|(refine gx (small_sem ?_ ?_ ?_)<;>exact pre)|(exact idx_eq hq (by omega))|exact sideG)|(first|apply dG|apply kB);kernel_rfl|apply rR|apply rE|apply rH| (apply cD<;>intro hb<;>(try simp only[SPLT]at hb)<;>try exact noB))
       all_goals try exact false
       replace hr:(zW,(10:Int))=r:=hr
       subst hr
       repeat' ((conv=>whnf);first|exact endR|with_reducible first|apply And.intro|apply oR|apply oN|apply dC)
       all_goals (conv=>whnf)
       simp only [zW,Wy.row,List.map_nil]
       (first|refine rle_agg ?_|refine dle_agg ?_|skip)
       repeat' (first|exact endF|exact endF2|with_reducible apply dC|with_reducible apply dle_agg)
      ·repeat'((conv=>whnf);first|((with_reducible apply DrawI.at 30 idl84_10);exact rfl;kernel_rfl)|with_reducible apply ExE.go|((with_reducible apply EqF.mk);exact rfl)|with_reducible apply AndI.mk|with_reducible exact trivial|(try(first|apply eN|apply eI|apply eC);conv=>whnf);apply sD;(focus(try intro hc;have hc0:=hc;(try simp only[SPLT]at hc);try refine and0 ?_);first|exact gx h2|exact gx ha|exact gx hb1|(refine gx (split_sem ?_ ?_ ?_)<;>exact pre)|(refine gx (isName2_sem ?_ ?_)<;>exact pre)|(refine gx (isTag2_sem ?_ ?_)<;>exact pre)|(refine gx (small_sem ?_ ?_ ?_)<;>exact pre)|(exact idx_eq hq (by omega))|exact sideG)|(first|apply dG|apply kB);kernel_rfl|apply rR|apply rE|apply rH| (apply cD<;>intro hb<;>(try simp only[SPLT]at hb)<;>try exact noB))
       all_goals try exact false
       replace hr:(([],a,nb.1,0),(0:Int))=r:=hr
       subst hr
       repeat' ((conv=>whnf);first|exact endR|with_reducible first|apply And.intro|apply oR|apply oN|apply dC)
       all_goals (conv=>whnf)
       simp only [zW,Wy.row,List.map_nil]
       (first|refine rle_agg ?_|refine dle_agg ?_|skip)
       repeat' (first|exact endF|exact endF2|with_reducible apply dC|with_reducible apply dle_agg)
     ·have ha:=h3 a (by simp)
      have hb1:=h4 b (by simp) 50
      have hb2:=h4 c (by simp) 20
      rw [tailN] at hr
      generalize isTagB a=q1 at ha hr
      generalize numN b=nb at hb1 hr
      generalize numB b 50=ob at hb1 hr
      generalize numN c=nc at hb2 hr
      generalize numB c 20=oc at hb2 hr
      cases q1<;>cases ob<;>cases oc
      ·repeat'((conv=>whnf);first|((with_reducible apply DrawI.at 30 idl84_10);exact rfl;kernel_rfl)|with_reducible apply ExE.go|((with_reducible apply EqF.mk);exact rfl)|with_reducible apply AndI.mk|with_reducible exact trivial|(try(first|apply eN|apply eI|apply eC);conv=>whnf);apply sD;(focus(try intro hc;have hc0:=hc;(try simp only[SPLT]at hc);try refine and0 ?_);first|exact gx h2|exact gx ha|exact gx hb1|exact gx hb2|(refine gx (split_sem ?_ ?_ ?_)<;>exact pre)|(refine gx (isName2_sem ?_ ?_)<;>exact pre)|(refine gx (isTag2_sem ?_ ?_)<;>exact pre)|(refine gx (small_sem ?_ ?_ ?_)<;>exact pre)|(exact idx_eq hq (by omega))|exact sideG)|(first|apply dG|apply kB);kernel_rfl|apply rR|apply rE|apply rH| (apply cD<;>intro hb<;>(try simp only[SPLT]at hb)<;>try exact noB))
       all_goals try exact false
       replace hr:(zW,(10:Int))=r:=hr
       subst hr
       repeat' ((conv=>whnf);first|exact endR|with_reducible first|apply And.intro|apply oR|apply oN|apply dC)
       all_goals (conv=>whnf)
       simp only [zW,Wy.row,List.map_nil]
       (first|refine rle_agg ?_|refine dle_agg ?_|skip)
       repeat' (first|exact endF|exact endF2|with_reducible apply dC|with_reducible apply dle_agg)
      ·repeat'((conv=>whnf);first|((with_reducible apply DrawI.at 30 idl84_10);exact rfl;kernel_rfl)|with_reducible apply ExE.go|((with_reducible apply EqF.mk);exact rfl)|with_reducible apply AndI.mk|with_reducible exact trivial|(try(first|apply eN|apply eI|apply eC);conv=>whnf);apply sD;(focus(try intro hc;have hc0:=hc;(try simp only[SPLT]at hc);try refine and0 ?_);first|exact gx h2|exact gx ha|exact gx hb1|exact gx hb2|(refine gx (split_sem ?_ ?_ ?_)<;>exact pre)|(refine gx (isName2_sem ?_ ?_)<;>exact pre)|(refine gx (isTag2_sem ?_ ?_)<;>exact pre)|(refine gx (small_sem ?_ ?_ ?_)<;>exact pre)|(exact idx_eq hq (by omega))|exact sideG)|(first|apply dG|apply kB);kernel_rfl|apply rR|apply rE|apply rH| (apply cD<;>intro hb<;>(try simp only[SPLT]at hb)<;>try exact noB))
       all_goals try exact false
       replace hr:(zW,(10:Int))=r:=hr
       subst hr
       repeat' ((conv=>whnf);first|exact endR|with_reducible first|apply And.intro|apply oR|apply oN|apply dC)
       all_goals (conv=>whnf)
       simp only [zW,Wy.row,List.map_nil]
       (first|refine rle_agg ?_|refine dle_agg ?_|skip)
       repeat' (first|exact endF|exact endF2|with_reducible apply dC|with_reducible apply dle_agg)
      ·repeat'((conv=>whnf);first|((with_reducible apply DrawI.at 30 idl84_10);exact rfl;kernel_rfl)|with_reducible apply ExE.go|((with_reducible apply EqF.mk);exact rfl)|with_reducible apply AndI.mk|with_reducible exact trivial|(try(first|apply eN|apply eI|apply eC);conv=>whnf);apply sD;(focus(try intro hc;have hc0:=hc;(try simp only[SPLT]at hc);try refine and0 ?_);first|exact gx h2|exact gx ha|exact gx hb1|exact gx hb2|(refine gx (split_sem ?_ ?_ ?_)<;>exact pre)|(refine gx (isName2_sem ?_ ?_)<;>exact pre)|(refine gx (isTag2_sem ?_ ?_)<;>exact pre)|(refine gx (small_sem ?_ ?_ ?_)<;>exact pre)|(exact idx_eq hq (by omega))|exact sideG)|(first|apply dG|apply kB);kernel_rfl|apply rR|apply rE|apply rH| (apply cD<;>intro hb<;>(try simp only[SPLT]at hb)<;>try exact noB))
       all_goals try exact false
       replace hr:(zW,(10:Int))=r:=hr
       subst hr
       repeat' ((conv=>whnf);first|exact endR|with_reducible first|apply And.intro|apply oR|apply oN|apply dC)
       all_goals (conv=>whnf)
       simp only [zW,Wy.row,List.map_nil]
       (first|refine rle_agg ?_|refine dle_agg ?_|skip)
       repeat' (first|exact endF|exact endF2|with_reducible apply dC|with_reducible apply dle_agg)
      ·repeat'((conv=>whnf);first|((with_reducible apply DrawI.at 30 idl84_10);exact rfl;kernel_rfl)|with_reducible apply ExE.go|((with_reducible apply EqF.mk);exact rfl)|with_reducible apply AndI.mk|with_reducible exact trivial|(try(first|apply eN|apply eI|apply eC);conv=>whnf);apply sD;(focus(try intro hc;have hc0:=hc;(try simp only[SPLT]at hc);try refine and0 ?_);first|exact gx h2|exact gx ha|exact gx hb1|exact gx hb2|(refine gx (split_sem ?_ ?_ ?_)<;>exact pre)|(refine gx (isName2_sem ?_ ?_)<;>exact pre)|(refine gx (isTag2_sem ?_ ?_)<;>exact pre)|(refine gx (small_sem ?_ ?_ ?_)<;>exact pre)|(exact idx_eq hq (by omega))|exact sideG)|(first|apply dG|apply kB);kernel_rfl|apply rR|apply rE|apply rH| (apply cD<;>intro hb<;>(try simp only[SPLT]at hb)<;>try exact noB))
       all_goals try exact false
       replace hr:(zW,(10:Int))=r:=hr
       subst hr
       repeat' ((conv=>whnf);first|exact endR|with_reducible first|apply And.intro|apply oR|apply oN|apply dC)
       all_goals (conv=>whnf)
       simp only [zW,Wy.row,List.map_nil]
       (first|refine rle_agg ?_|refine dle_agg ?_|skip)
       repeat' (first|exact endF|exact endF2|with_reducible apply dC|with_reducible apply dle_agg)
      ·repeat'((conv=>whnf);first|((with_reducible apply DrawI.at 30 idl84_10);exact rfl;kernel_rfl)|with_reducible apply ExE.go|((with_reducible apply EqF.mk);exact rfl)|with_reducible apply AndI.mk|with_reducible exact trivial|(try(first|apply eN|apply eI|apply eC);conv=>whnf);apply sD;(focus(try intro hc;have hc0:=hc;(try simp only[SPLT]at hc);try refine and0 ?_);first|exact gx h2|exact gx ha|exact gx hb1|exact gx hb2|(refine gx (split_sem ?_ ?_ ?_)<;>exact pre)|(refine gx (isName2_sem ?_ ?_)<;>exact pre)|(refine gx (isTag2_sem ?_ ?_)<;>exact pre)|(refine gx (small_sem ?_ ?_ ?_)<;>exact pre)|(exact idx_eq hq (by omega))|exact sideG)|(first|apply dG|apply kB);kernel_rfl|apply rR|apply rE|apply rH| (apply cD<;>intro hb<;>(try simp only[SPLT]at hb)<;>try exact noB))
       all_goals try exact false
       replace hr:(zW,(10:Int))=r:=hr
       subst hr
       repeat' ((conv=>whnf);first|exact endR|with_reducible first|apply And.intro|apply oR|apply oN|apply dC)
       all_goals (conv=>whnf)
       simp only [zW,Wy.row,List.map_nil]
       (first|refine rle_agg ?_|refine dle_agg ?_|skip)
       repeat' (first|exact endF|exact endF2|with_reducible apply dC|with_reducible apply dle_agg)
      ·repeat'((conv=>whnf);first|((with_reducible apply DrawI.at 30 idl84_10);exact rfl;kernel_rfl)|with_reducible apply ExE.go|((with_reducible apply EqF.mk);exact rfl)|with_reducible apply AndI.mk|with_reducible exact trivial|(try(first|apply eN|apply eI|apply eC);conv=>whnf);apply sD;(focus(try intro hc;have hc0:=hc;(try simp only[SPLT]at hc);try refine and0 ?_);first|exact gx h2|exact gx ha|exact gx hb1|exact gx hb2|(refine gx (split_sem ?_ ?_ ?_)<;>exact pre)|(refine gx (isName2_sem ?_ ?_)<;>exact pre)|(refine gx (isTag2_sem ?_ ?_)<;>exact pre)|(refine gx (small_sem ?_ ?_ ?_)<;>exact pre)|(exact idx_eq hq (by omega))|exact sideG)|(first|apply dG|apply kB);kernel_rfl|apply rR|apply rE|apply rH| (apply cD<;>intro hb<;>(try simp only[SPLT]at hb)<;>try exact noB))
       all_goals try exact false
       replace hr:(zW,(10:Int))=r:=hr
       subst hr
       repeat' ((conv=>whnf);first|exact endR|with_reducible first|apply And.intro|apply oR|apply oN|apply dC)
       all_goals (conv=>whnf)
       simp only [zW,Wy.row,List.map_nil]
       (first|refine rle_agg ?_|refine dle_agg ?_|skip)
       repeat' (first|exact endF|exact endF2|with_reducible apply dC|with_reducible apply dle_agg)
      ·repeat'((conv=>whnf);first|((with_reducible apply DrawI.at 30 idl84_10);exact rfl;kernel_rfl)|with_reducible apply ExE.go|((with_reducible apply EqF.mk);exact rfl)|with_reducible apply AndI.mk|with_reducible exact trivial|(try(first|apply eN|apply eI|apply eC);conv=>whnf);apply sD;(focus(try intro hc;have hc0:=hc;(try simp only[SPLT]at hc);try refine and0 ?_);first|exact gx h2|exact gx ha|exact gx hb1|exact gx hb2|(refine gx (split_sem ?_ ?_ ?_)<;>exact pre)|(refine gx (isName2_sem ?_ ?_)<;>exact pre)|(refine gx (isTag2_sem ?_ ?_)<;>exact pre)|(refine gx (small_sem ?_ ?_ ?_)<;>exact pre)|(exact idx_eq hq (by omega))|exact sideG)|(first|apply dG|apply kB);kernel_rfl|apply rR|apply rE|apply rH| (apply cD<;>intro hb<;>(try simp only[SPLT]at hb)<;>try exact noB))
       all_goals try exact false
       replace hr:(zW,(10:Int))=r:=hr
       subst hr
       repeat' ((conv=>whnf);first|exact endR|with_reducible first|apply And.intro|apply oR|apply oN|apply dC)
       all_goals (conv=>whnf)
       simp only [zW,Wy.row,List.map_nil]
       (first|refine rle_agg ?_|refine dle_agg ?_|skip)
       repeat' (first|exact endF|exact endF2|with_reducible apply dC|with_reducible apply dle_agg)
      ·repeat'((conv=>whnf);first|((with_reducible apply DrawI.at 30 idl84_10);exact rfl;kernel_rfl)|with_reducible apply ExE.go|((with_reducible apply EqF.mk);exact rfl)|with_reducible apply AndI.mk|with_reducible exact trivial|(try(first|apply eN|apply eI|apply eC);conv=>whnf);apply sD;(focus(try intro hc;have hc0:=hc;(try simp only[SPLT]at hc);try refine and0 ?_);first|exact gx h2|exact gx ha|exact gx hb1|exact gx hb2|(refine gx (split_sem ?_ ?_ ?_)<;>exact pre)|(refine gx (isName2_sem ?_ ?_)<;>exact pre)|(refine gx (isTag2_sem ?_ ?_)<;>exact pre)|(refine gx (small_sem ?_ ?_ ?_)<;>exact pre)|(exact idx_eq hq (by omega))|exact sideG)|(first|apply dG|apply kB);kernel_rfl|apply rR|apply rE|apply rH| (apply cD<;>intro hb<;>(try simp only[SPLT]at hb)<;>try exact noB))
       all_goals try exact false
       replace hr:(([],a,nb.1,nc.1),(0:Int))=r:=hr
       subst hr
       repeat' ((conv=>whnf);first|exact endR|with_reducible first|apply And.intro|apply oR|apply oN|apply dC)
       all_goals (conv=>whnf)
       simp only [zW,Wy.row,List.map_nil]
       (first|refine rle_agg ?_|refine dle_agg ?_|skip)
       repeat' (first|exact endF|exact endF2|with_reducible apply dC|with_reducible apply dle_agg)
     ·have ha:=h3 a (by simp)
      repeat'((conv=>whnf);first|((with_reducible apply DrawI.at 30 idl84_10);exact rfl;kernel_rfl)|with_reducible apply ExE.go|((with_reducible apply EqF.mk);exact rfl)|with_reducible apply AndI.mk|with_reducible exact trivial|(try(first|apply eN|apply eI|apply eC);conv=>whnf);apply sD;(focus(try intro hc;have hc0:=hc;(try simp only[SPLT]at hc);try refine and0 ?_);first|exact gx h2|exact gx ha|(refine gx (split_sem ?_ ?_ ?_)<;>exact pre)|(refine gx (isName2_sem ?_ ?_)<;>exact pre)|(refine gx (isTag2_sem ?_ ?_)<;>exact pre)|(refine gx (small_sem ?_ ?_ ?_)<;>exact pre)|(exact idx_eq hq (by omega))|exact sideG)|(first|apply dG|apply kB);kernel_rfl|apply rR|apply rE|apply rH| (apply cD<;>intro hb<;>(try simp only[SPLT]at hb)<;>try exact noB))
      all_goals try exact false
      replace hr:(zW,(10:Int))=r:=hr
      subst hr
      repeat' ((conv=>whnf);first|exact endR|with_reducible first|apply And.intro|apply oR|apply oN|apply dC)
      all_goals (conv=>whnf)
      simp only [zW,Wy.row,List.map_nil]
      (first|refine rle_agg ?_|refine dle_agg ?_|skip)
      repeat' (first|exact endF|exact endF2|with_reducible apply dC|with_reducible apply dle_agg)
    ·obtain rfl:l.take (i+1)=ns:=hns
     rcases l2 with _|⟨a,_|⟨b,_|⟨c,_|⟨d,t⟩⟩⟩⟩
     ·exact absurd rfl h5
     ·have ha:=h3 a (by simp)
      rw [tailN] at hr
      generalize isTagB a=q1 at ha hr
      cases q1
      ·repeat'((conv=>whnf);first|((with_reducible apply DrawI.at 30 idl84_10);exact rfl;kernel_rfl)|with_reducible apply ExE.go|((with_reducible apply EqF.mk);exact rfl)|with_reducible apply AndI.mk|with_reducible exact trivial|(try(first|apply eN|apply eI|apply eC);conv=>whnf);apply sD;(focus(try intro hc;have hc0:=hc;(try simp only[SPLT]at hc);try refine and0 ?_);first|exact gx h2|exact gx ha|(refine gx (split_sem ?_ ?_ ?_)<;>exact pre)|(refine gx (isName2_sem ?_ ?_)<;>exact pre)|(refine gx (isTag2_sem ?_ ?_)<;>exact pre)|(refine gx (small_sem ?_ ?_ ?_)<;>exact pre)|(exact idx_eq hq (by omega))|exact sideG)|(first|apply dG|apply kB);kernel_rfl|apply rR|apply rE|apply rH| (apply cD<;>intro hb<;>(try simp only[SPLT]at hb)<;>try exact noB))
       all_goals try exact false
       replace hr:(zW,(10:Int))=r:=hr
       subst hr
       repeat' ((conv=>whnf);first|exact endR|with_reducible first|apply And.intro|apply oR|apply oN|apply dC)
       all_goals (conv=>whnf)
       simp only [zW,Wy.row,List.map_nil]
       (first|refine rle_agg ?_|refine dle_agg ?_|skip)
       repeat' (first|exact endF|exact endF2|with_reducible apply dC|with_reducible apply dle_agg)
      ·repeat'((conv=>whnf);first|((with_reducible apply DrawI.at 30 idl84_10);exact rfl;kernel_rfl)|with_reducible apply ExE.go|((with_reducible apply EqF.mk);exact rfl)|with_reducible apply AndI.mk|with_reducible exact trivial|(try(first|apply eN|apply eI|apply eC);conv=>whnf);apply sD;(focus(try intro hc;have hc0:=hc;(try simp only[SPLT]at hc);try refine and0 ?_);first|exact gx h2|exact gx ha|(refine gx (split_sem ?_ ?_ ?_)<;>exact pre)|(refine gx (isName2_sem ?_ ?_)<;>exact pre)|(refine gx (isTag2_sem ?_ ?_)<;>exact pre)|(refine gx (small_sem ?_ ?_ ?_)<;>exact pre)|(exact idx_eq hq (by omega))|exact sideG)|(first|apply dG|apply kB);kernel_rfl|apply rR|apply rE|apply rH| (apply cD<;>intro hb<;>(try simp only[SPLT]at hb)<;>try exact noB))
       all_goals try exact false
       replace hr:((l.take (i+1),a,0,0),(0:Int))=r:=hr
       subst hr
       repeat' ((conv=>whnf);first|exact endR|with_reducible first|apply And.intro|apply oR|apply oN|apply dC)
       all_goals (conv=>whnf)
       simp only [zW,Wy.row,List.map_nil]
       (first|refine rle_agg ?_|refine dle_agg ?_|skip)
       repeat' (first|exact endF|exact endF2|with_reducible apply dC|with_reducible apply dle_agg)
     ·have ha:=h3 a (by simp)
      have hb1:=h4 b (by simp) 50
      rw [tailN] at hr
      generalize isTagB a=q1 at ha hr
      generalize numN b=nb at hb1 hr
      generalize numB b 50=ob at hb1 hr
      cases q1<;>cases ob
      ·repeat'((conv=>whnf);first|((with_reducible apply DrawI.at 30 idl84_10);exact rfl;kernel_rfl)|with_reducible apply ExE.go|((with_reducible apply EqF.mk);exact rfl)|with_reducible apply AndI.mk|with_reducible exact trivial|(try(first|apply eN|apply eI|apply eC);conv=>whnf);apply sD;(focus(try intro hc;have hc0:=hc;(try simp only[SPLT]at hc);try refine and0 ?_);first|exact gx h2|exact gx ha|exact gx hb1|(refine gx (split_sem ?_ ?_ ?_)<;>exact pre)|(refine gx (isName2_sem ?_ ?_)<;>exact pre)|(refine gx (isTag2_sem ?_ ?_)<;>exact pre)|(refine gx (small_sem ?_ ?_ ?_)<;>exact pre)|(exact idx_eq hq (by omega))|exact sideG)|(first|apply dG|apply kB);kernel_rfl|apply rR|apply rE|apply rH| (apply cD<;>intro hb<;>(try simp only[SPLT]at hb)<;>try exact noB))
       all_goals try exact false
       replace hr:(zW,(10:Int))=r:=hr
       subst hr
       repeat' ((conv=>whnf);first|exact endR|with_reducible first|apply And.intro|apply oR|apply oN|apply dC)
       all_goals (conv=>whnf)
       simp only [zW,Wy.row,List.map_nil]
       (first|refine rle_agg ?_|refine dle_agg ?_|skip)
       repeat' (first|exact endF|exact endF2|with_reducible apply dC|with_reducible apply dle_agg)
      ·repeat'((conv=>whnf);first|((with_reducible apply DrawI.at 30 idl84_10);exact rfl;kernel_rfl)|with_reducible apply ExE.go|((with_reducible apply EqF.mk);exact rfl)|with_reducible apply AndI.mk|with_reducible exact trivial|(try(first|apply eN|apply eI|apply eC);conv=>whnf);apply sD;(focus(try intro hc;have hc0:=hc;(try simp only[SPLT]at hc);try refine and0 ?_);first|exact gx h2|exact gx ha|exact gx hb1|(refine gx (split_sem ?_ ?_ ?_)<;>exact pre)|(refine gx (isName2_sem ?_ ?_)<;>exact pre)|(refine gx (isTag2_sem ?_ ?_)<;>exact pre)|(refine gx (small_sem ?_ ?_ ?_)<;>exact pre)|(exact idx_eq hq (by omega))|exact sideG)|(first|apply dG|apply kB);kernel_rfl|apply rR|apply rE|apply rH| (apply cD<;>intro hb<;>(try simp only[SPLT]at hb)<;>try exact noB))
       all_goals try exact false
       replace hr:(zW,(10:Int))=r:=hr
       subst hr
       repeat' ((conv=>whnf);first|exact endR|with_reducible first|apply And.intro|apply oR|apply oN|apply dC)
       all_goals (conv=>whnf)
       simp only [zW,Wy.row,List.map_nil]
       (first|refine rle_agg ?_|refine dle_agg ?_|skip)
       repeat' (first|exact endF|exact endF2|with_reducible apply dC|with_reducible apply dle_agg)
      ·repeat'((conv=>whnf);first|((with_reducible apply DrawI.at 30 idl84_10);exact rfl;kernel_rfl)|with_reducible apply ExE.go|((with_reducible apply EqF.mk);exact rfl)|with_reducible apply AndI.mk|with_reducible exact trivial|(try(first|apply eN|apply eI|apply eC);conv=>whnf);apply sD;(focus(try intro hc;have hc0:=hc;(try simp only[SPLT]at hc);try refine and0 ?_);first|exact gx h2|exact gx ha|exact gx hb1|(refine gx (split_sem ?_ ?_ ?_)<;>exact pre)|(refine gx (isName2_sem ?_ ?_)<;>exact pre)|(refine gx (isTag2_sem ?_ ?_)<;>exact pre)|(refine gx (small_sem ?_ ?_ ?_)<;>exact pre)|(exact idx_eq hq (by omega))|exact sideG)|(first|apply dG|apply kB);kernel_rfl|apply rR|apply rE|apply rH| (apply cD<;>intro hb<;>(try simp only[SPLT]at hb)<;>try exact noB))
       all_goals try exact false
       replace hr:(zW,(10:Int))=r:=hr
       subst hr
       repeat' ((conv=>whnf);first|exact endR|with_reducible first|apply And.intro|apply oR|apply oN|apply dC)
       all_goals (conv=>whnf)
       simp only [zW,Wy.row,List.map_nil]
       (first|refine rle_agg ?_|refine dle_agg ?_|skip)
       repeat' (first|exact endF|exact endF2|with_reducible apply dC|with_reducible apply dle_agg)
      ·repeat'((conv=>whnf);first|((with_reducible apply DrawI.at 30 idl84_10);exact rfl;kernel_rfl)|with_reducible apply ExE.go|((with_reducible apply EqF.mk);exact rfl)|with_reducible apply AndI.mk|with_reducible exact trivial|(try(first|apply eN|apply eI|apply eC);conv=>whnf);apply sD;(focus(try intro hc;have hc0:=hc;(try simp only[SPLT]at hc);try refine and0 ?_);first|exact gx h2|exact gx ha|exact gx hb1|(refine gx (split_sem ?_ ?_ ?_)<;>exact pre)|(refine gx (isName2_sem ?_ ?_)<;>exact pre)|(refine gx (isTag2_sem ?_ ?_)<;>exact pre)|(refine gx (small_sem ?_ ?_ ?_)<;>exact pre)|(exact idx_eq hq (by omega))|exact sideG)|(first|apply dG|apply kB);kernel_rfl|apply rR|apply rE|apply rH| (apply cD<;>intro hb<;>(try simp only[SPLT]at hb)<;>try exact noB))
       all_goals try exact false
       replace hr:((l.take (i+1),a,nb.1,0),(0:Int))=r:=hr
       subst hr
       repeat' ((conv=>whnf);first|exact endR|with_reducible first|apply And.intro|apply oR|apply oN|apply dC)
       all_goals (conv=>whnf)
       simp only [zW,Wy.row,List.map_nil]
       (first|refine rle_agg ?_|refine dle_agg ?_|skip)
       repeat' (first|exact endF|exact endF2|with_reducible apply dC|with_reducible apply dle_agg)
     ·have ha:=h3 a (by simp)
      have hb1:=h4 b (by simp) 50
      have hb2:=h4 c (by simp) 20
      rw [tailN] at hr
      generalize isTagB a=q1 at ha hr
      generalize numN b=nb at hb1 hr
      generalize numB b 50=ob at hb1 hr
      generalize numN c=nc at hb2 hr
      generalize numB c 20=oc at hb2 hr
      cases q1<;>cases ob<;>cases oc
      ·repeat'((conv=>whnf);first|((with_reducible apply DrawI.at 30 idl84_10);exact rfl;kernel_rfl)|with_reducible apply ExE.go|((with_reducible apply EqF.mk);exact rfl)|with_reducible apply AndI.mk|with_reducible exact trivial|(try(first|apply eN|apply eI|apply eC);conv=>whnf);apply sD;(focus(try intro hc;have hc0:=hc;(try simp only[SPLT]at hc);try refine and0 ?_);first|exact gx h2|exact gx ha|exact gx hb1|exact gx hb2|(refine gx (split_sem ?_ ?_ ?_)<;>exact pre)|(refine gx (isName2_sem ?_ ?_)<;>exact pre)|(refine gx (isTag2_sem ?_ ?_)<;>exact pre)|(refine gx (small_sem ?_ ?_ ?_)<;>exact pre)|(exact idx_eq hq (by omega))|exact sideG)|(first|apply dG|apply kB);kernel_rfl|apply rR|apply rE|apply rH| (apply cD<;>intro hb<;>(try simp only[SPLT]at hb)<;>try exact noB))
       all_goals try exact false
       replace hr:(zW,(10:Int))=r:=hr
       subst hr
       repeat' ((conv=>whnf);first|exact endR|with_reducible first|apply And.intro|apply oR|apply oN|apply dC)
       all_goals (conv=>whnf)
       simp only [zW,Wy.row,List.map_nil]
       (first|refine rle_agg ?_|refine dle_agg ?_|skip)
       repeat' (first|exact endF|exact endF2|with_reducible apply dC|with_reducible apply dle_agg)
      ·repeat'((conv=>whnf);first|((with_reducible apply DrawI.at 30 idl84_10);exact rfl;kernel_rfl)|with_reducible apply ExE.go|((with_reducible apply EqF.mk);exact rfl)|with_reducible apply AndI.mk|with_reducible exact trivial|(try(first|apply eN|apply eI|apply eC);conv=>whnf);apply sD;(focus(try intro hc;have hc0:=hc;(try simp only[SPLT]at hc);try refine and0 ?_);first|exact gx h2|exact gx ha|exact gx hb1|exact gx hb2|(refine gx (split_sem ?_ ?_ ?_)<;>exact pre)|(refine gx (isName2_sem ?_ ?_)<;>exact pre)|(refine gx (isTag2_sem ?_ ?_)<;>exact pre)|(refine gx (small_sem ?_ ?_ ?_)<;>exact pre)|(exact idx_eq hq (by omega))|exact sideG)|(first|apply dG|apply kB);kernel_rfl|apply rR|apply rE|apply rH| (apply cD<;>intro hb<;>(try simp only[SPLT]at hb)<;>try exact noB))
       all_goals try exact false
       replace hr:(zW,(10:Int))=r:=hr
       subst hr
       repeat' ((conv=>whnf);first|exact endR|with_reducible first|apply And.intro|apply oR|apply oN|apply dC)
       all_goals (conv=>whnf)
       simp only [zW,Wy.row,List.map_nil]
       (first|refine rle_agg ?_|refine dle_agg ?_|skip)
       repeat' (first|exact endF|exact endF2|with_reducible apply dC|with_reducible apply dle_agg)
      ·repeat'((conv=>whnf);first|((with_reducible apply DrawI.at 30 idl84_10);exact rfl;kernel_rfl)|with_reducible apply ExE.go|((with_reducible apply EqF.mk);exact rfl)|with_reducible apply AndI.mk|with_reducible exact trivial|(try(first|apply eN|apply eI|apply eC);conv=>whnf);apply sD;(focus(try intro hc;have hc0:=hc;(try simp only[SPLT]at hc);try refine and0 ?_);first|exact gx h2|exact gx ha|exact gx hb1|exact gx hb2|(refine gx (split_sem ?_ ?_ ?_)<;>exact pre)|(refine gx (isName2_sem ?_ ?_)<;>exact pre)|(refine gx (isTag2_sem ?_ ?_)<;>exact pre)|(refine gx (small_sem ?_ ?_ ?_)<;>exact pre)|(exact idx_eq hq (by omega))|exact sideG)|(first|apply dG|apply kB);kernel_rfl|apply rR|apply rE|apply rH| (apply cD<;>intro hb<;>(try simp only[SPLT]at hb)<;>try exact noB))
       all_goals try exact false
       replace hr:(zW,(10:Int))=r:=hr
       subst hr
       repeat' ((conv=>whnf);first|exact endR|with_reducible first|apply And.intro|apply oR|apply oN|apply dC)
       all_goals (conv=>whnf)
       simp only [zW,Wy.row,List.map_nil]
       (first|refine rle_agg ?_|refine dle_agg ?_|skip)
       repeat' (first|exact endF|exact endF2|with_reducible apply dC|with_reducible apply dle_agg)
      ·repeat'((conv=>whnf);first|((with_reducible apply DrawI.at 30 idl84_10);exact rfl;kernel_rfl)|with_reducible apply ExE.go|((with_reducible apply EqF.mk);exact rfl)|with_reducible apply AndI.mk|with_reducible exact trivial|(try(first|apply eN|apply eI|apply eC);conv=>whnf);apply sD;(focus(try intro hc;have hc0:=hc;(try simp only[SPLT]at hc);try refine and0 ?_);first|exact gx h2|exact gx ha|exact gx hb1|exact gx hb2|(refine gx (split_sem ?_ ?_ ?_)<;>exact pre)|(refine gx (isName2_sem ?_ ?_)<;>exact pre)|(refine gx (isTag2_sem ?_ ?_)<;>exact pre)|(refine gx (small_sem ?_ ?_ ?_)<;>exact pre)|(exact idx_eq hq (by omega))|exact sideG)|(first|apply dG|apply kB);kernel_rfl|apply rR|apply rE|apply rH| (apply cD<;>intro hb<;>(try simp only[SPLT]at hb)<;>try exact noB))
       all_goals try exact false
       replace hr:(zW,(10:Int))=r:=hr
       subst hr
       repeat' ((conv=>whnf);first|exact endR|with_reducible first|apply And.intro|apply oR|apply oN|apply dC)
       all_goals (conv=>whnf)
       simp only [zW,Wy.row,List.map_nil]
       (first|refine rle_agg ?_|refine dle_agg ?_|skip)
       repeat' (first|exact endF|exact endF2|with_reducible apply dC|with_reducible apply dle_agg)
      ·repeat'((conv=>whnf);first|((with_reducible apply DrawI.at 30 idl84_10);exact rfl;kernel_rfl)|with_reducible apply ExE.go|((with_reducible apply EqF.mk);exact rfl)|with_reducible apply AndI.mk|with_reducible exact trivial|(try(first|apply eN|apply eI|apply eC);conv=>whnf);apply sD;(focus(try intro hc;have hc0:=hc;(try simp only[SPLT]at hc);try refine and0 ?_);first|exact gx h2|exact gx ha|exact gx hb1|exact gx hb2|(refine gx (split_sem ?_ ?_ ?_)<;>exact pre)|(refine gx (isName2_sem ?_ ?_)<;>exact pre)|(refine gx (isTag2_sem ?_ ?_)<;>exact pre)|(refine gx (small_sem ?_ ?_ ?_)<;>exact pre)|(exact idx_eq hq (by omega))|exact sideG)|(first|apply dG|apply kB);kernel_rfl|apply rR|apply rE|apply rH| (apply cD<;>intro hb<;>(try simp only[SPLT]at hb)<;>try exact noB))
       all_goals try exact false
       replace hr:(zW,(10:Int))=r:=hr
       subst hr
       repeat' ((conv=>whnf);first|exact endR|with_reducible first|apply And.intro|apply oR|apply oN|apply dC)
       all_goals (conv=>whnf)
       simp only [zW,Wy.row,List.map_nil]
       (first|refine rle_agg ?_|refine dle_agg ?_|skip)
       repeat' (first|exact endF|exact endF2|with_reducible apply dC|with_reducible apply dle_agg)
      ·repeat'((conv=>whnf);first|((with_reducible apply DrawI.at 30 idl84_10);exact rfl;kernel_rfl)|with_reducible apply ExE.go|((with_reducible apply EqF.mk);exact rfl)|with_reducible apply AndI.mk|with_reducible exact trivial|(try(first|apply eN|apply eI|apply eC);conv=>whnf);apply sD;(focus(try intro hc;have hc0:=hc;(try simp only[SPLT]at hc);try refine and0 ?_);first|exact gx h2|exact gx ha|exact gx hb1|exact gx hb2|(refine gx (split_sem ?_ ?_ ?_)<;>exact pre)|(refine gx (isName2_sem ?_ ?_)<;>exact pre)|(refine gx (isTag2_sem ?_ ?_)<;>exact pre)|(refine gx (small_sem ?_ ?_ ?_)<;>exact pre)|(exact idx_eq hq (by omega))|exact sideG)|(first|apply dG|apply kB);kernel_rfl|apply rR|apply rE|apply rH| (apply cD<;>intro hb<;>(try simp only[SPLT]at hb)<;>try exact noB))
       all_goals try exact false
       replace hr:(zW,(10:Int))=r:=hr
       subst hr
       repeat' ((conv=>whnf);first|exact endR|with_reducible first|apply And.intro|apply oR|apply oN|apply dC)
       all_goals (conv=>whnf)
       simp only [zW,Wy.row,List.map_nil]
       (first|refine rle_agg ?_|refine dle_agg ?_|skip)
       repeat' (first|exact endF|exact endF2|with_reducible apply dC|with_reducible apply dle_agg)
      ·repeat'((conv=>whnf);first|((with_reducible apply DrawI.at 30 idl84_10);exact rfl;kernel_rfl)|with_reducible apply ExE.go|((with_reducible apply EqF.mk);exact rfl)|with_reducible apply AndI.mk|with_reducible exact trivial|(try(first|apply eN|apply eI|apply eC);conv=>whnf);apply sD;(focus(try intro hc;have hc0:=hc;(try simp only[SPLT]at hc);try refine and0 ?_);first|exact gx h2|exact gx ha|exact gx hb1|exact gx hb2|(refine gx (split_sem ?_ ?_ ?_)<;>exact pre)|(refine gx (isName2_sem ?_ ?_)<;>exact pre)|(refine gx (isTag2_sem ?_ ?_)<;>exact pre)|(refine gx (small_sem ?_ ?_ ?_)<;>exact pre)|(exact idx_eq hq (by omega))|exact sideG)|(first|apply dG|apply kB);kernel_rfl|apply rR|apply rE|apply rH| (apply cD<;>intro hb<;>(try simp only[SPLT]at hb)<;>try exact noB))
       all_goals try exact false
       replace hr:(zW,(10:Int))=r:=hr
       subst hr
       repeat' ((conv=>whnf);first|exact endR|with_reducible first|apply And.intro|apply oR|apply oN|apply dC)
       all_goals (conv=>whnf)
       simp only [zW,Wy.row,List.map_nil]
       (first|refine rle_agg ?_|refine dle_agg ?_|skip)
       repeat' (first|exact endF|exact endF2|with_reducible apply dC|with_reducible apply dle_agg)
      ·repeat'((conv=>whnf);first|((with_reducible apply DrawI.at 30 idl84_10);exact rfl;kernel_rfl)|with_reducible apply ExE.go|((with_reducible apply EqF.mk);exact rfl)|with_reducible apply AndI.mk|with_reducible exact trivial|(try(first|apply eN|apply eI|apply eC);conv=>whnf);apply sD;(focus(try intro hc;have hc0:=hc;(try simp only[SPLT]at hc);try refine and0 ?_);first|exact gx h2|exact gx ha|exact gx hb1|exact gx hb2|(refine gx (split_sem ?_ ?_ ?_)<;>exact pre)|(refine gx (isName2_sem ?_ ?_)<;>exact pre)|(refine gx (isTag2_sem ?_ ?_)<;>exact pre)|(refine gx (small_sem ?_ ?_ ?_)<;>exact pre)|(exact idx_eq hq (by omega))|exact sideG)|(first|apply dG|apply kB);kernel_rfl|apply rR|apply rE|apply rH| (apply cD<;>intro hb<;>(try simp only[SPLT]at hb)<;>try exact noB))
       all_goals try exact false
       replace hr:((l.take (i+1),a,nb.1,nc.1),(0:Int))=r:=hr
       subst hr
       repeat' ((conv=>whnf);first|exact endR|with_reducible first|apply And.intro|apply oR|apply oN|apply dC)
       all_goals (conv=>whnf)
       simp only [zW,Wy.row,List.map_nil]
       (first|refine rle_agg ?_|refine dle_agg ?_|skip)
       repeat' (first|exact endF|exact endF2|with_reducible apply dC|with_reducible apply dle_agg)
     ·have ha:=h3 a (by simp)
      repeat'((conv=>whnf);first|((with_reducible apply DrawI.at 30 idl84_10);exact rfl;kernel_rfl)|with_reducible apply ExE.go|((with_reducible apply EqF.mk);exact rfl)|with_reducible apply AndI.mk|with_reducible exact trivial|(try(first|apply eN|apply eI|apply eC);conv=>whnf);apply sD;(focus(try intro hc;have hc0:=hc;(try simp only[SPLT]at hc);try refine and0 ?_);first|exact gx h2|exact gx ha|(refine gx (split_sem ?_ ?_ ?_)<;>exact pre)|(refine gx (isName2_sem ?_ ?_)<;>exact pre)|(refine gx (isTag2_sem ?_ ?_)<;>exact pre)|(refine gx (small_sem ?_ ?_ ?_)<;>exact pre)|(exact idx_eq hq (by omega))|exact sideG)|(first|apply dG|apply kB);kernel_rfl|apply rR|apply rE|apply rH| (apply cD<;>intro hb<;>(try simp only[SPLT]at hb)<;>try exact noB))
      all_goals try exact false
      replace hr:(zW,(10:Int))=r:=hr
      subst hr
      repeat' ((conv=>whnf);first|exact endR|with_reducible first|apply And.intro|apply oR|apply oN|apply dC)
      all_goals (conv=>whnf)
      simp only [zW,Wy.row,List.map_nil]
      (first|refine rle_agg ?_|refine dle_agg ?_|skip)
      repeat' (first|exact endF|exact endF2|with_reducible apply dC|with_reducible apply dle_agg)
end Go.Proofs.YtindehjiaknokaaGreatDoor
