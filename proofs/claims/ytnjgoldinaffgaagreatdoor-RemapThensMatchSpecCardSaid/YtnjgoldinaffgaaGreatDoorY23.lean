/- Paths: the reference zFy one (walks). -/
import Derived.Test.YtnjgoldinaffgaaGreatDoorY22
namespace Go.Proofs.YtnjgoldinaffgaaGreatDoor
open _root_.Go.Proofs.Tryz
set_option linter.unusedSimpArgs false
set_option linter.unusedVariables false
open Go.RowKit
set_option maxRecDepth 100000
set_option maxHeartbeats 20000000
def aX:List (List Bool) := [[b0,b0,b0,b0,b0,b0,b0,b0,b0,b0],[b0,b0,b1,b0,b0,b0,b0,b0,b0,b0],[b0,b0,b1,b1,b0,b0,b0,b0,b0,b0],[b1,b0,b1,b1,b0,b0,b0,b0,b0,b0],[b0,b0,b1,b1,b1,b0,b0,b0,b0,b0],[b1,b1,b1,b1,b0,b0,b0,b0,b0,b0],[b1,b0,b1,b1,b1,b0,b0,b0,b0,b0],[b0,b0,b1,b1,b1,b1,b0,b0,b0,b0],[b1,b1,b1,b1,b1,b0,b0,b0,b0,b0],[b1,b0,b1,b1,b1,b1,b0,b0,b0,b0],[b0,b0,b1,b1,b1,b1,b1,b0,b0,b0],[b1,b1,b1,b1,b1,b1,b0,b0,b0,b0],[b1,b0,b1,b1,b1,b1,b1,b0,b0,b0],[b1,b1,b1,b1,b1,b1,b1,b0,b0,b0],[b1,b1,b1,b1,b1,b1,b1,b1,b0,b0],[b1,b1,b1,b1,b1,b1,b1,b1,b1,b0],[b1,b1,b1,b1,b1,b1,b1,b1,b1,b1]]
def vD (p:Str):Wy × Int:=if 200 < p.length then (zW,2) else if (iB p).2=true then ((iB p).1,0) else (zW,10)
theorem zGJ (p:Str):(vD p).2=bW p:=by
 unfold vD bW
 split
 ·rfl
 ·split<;>rfl
def zKF (l:List Str):Nat→D
 |0=>.nil
 |i+1=>.sl 2 1 ((l.take (i+1)).map fun s => [.str s])
theorem zR {l:List Str} {i:Nat} {a:Str} (h:l[i]?=some a):zKF l (i+1)=.sl 2 1 (((l.take i).map fun s => [.str s]) ++ [[.str a]]):=by
 rw [zKF,eZ h,List.map_append]
 rfl
theorem cU{p:Prop}(h:p:=by first|(refine gx (eV ?_ ?_ ?_)<;>exact pre)|(refine gx (dE ?_ ?_)<;>exact pre)|(refine gx (mZ ?_ ?_)<;>exact pre)|(refine gx (zAI ?_ ?_ ?_)<;>exact pre)):p:=h
theorem mU (p:Str):Sem Tryz.prog 64 [.str p] (.tup [.agg (vD p).1.row,.int .i64 (vD p).2]):=by
 unfold vD
 by_cases hp:200 < p.length
 ·rw [if_pos hp]
  unfold zW Wy.row
  refine si [2,5,4000005] func64 ?_
  repeat'((conv=>whnf);first|(try(first|apply eN|apply eI|apply eC);conv=>whnf);apply sD;(focus(try intro hc;have hc0:=hc;(try simp only[aA]at hc);try refine aE ?_);first|exact cU|exact aC)|(first|apply dG|apply kB);kernel_rfl|apply rR|apply rE|apply rH| (apply cD<;>intro hb<;>(try simp only[aA]at hb)<;>try exact aM))
  all_goals try exact false
  repeat' ((conv=>whnf);first|exact aI|with_reducible first|apply And.intro|apply oR|apply oN|apply dC)
  all_goals (conv=>whnf)
  (first|refine aG ?_|refine aB ?_|skip)
  repeat' (first|exact bE|exact aO|with_reducible apply dC|with_reducible apply aB)
 ·rw [if_neg hp]
  have h1:=(eV p 47 (by omega)).frozen
  have hl:=iI (c:=47) p
  have hne:=fZ (c:=47) p
  have hm:∀ a ∈ aF 47 p,a.length≤200:=fun a ha=>by have:=gV ha;omega
  unfold iB
  generalize aF 47 p=l at h1 hl hne hm ⊢
  have hll:(l.map fun s => [D.str s]).length=l.length:=List.length_map _
  obtain ⟨m,hlm⟩:∃ m,l.length=m+1:=⟨l.length - 1,by have:=List.length_pos_iff.2 hne;omega⟩
  rw [List.dropLast_eq_take,hlm,Nat.add_sub_cancel,List.getLast?_eq_getElem?,hlm,Nat.add_sub_cancel]
  obtain ⟨q,hq⟩:∃ q,l[m]?=some q:=⟨l[m],by simp⟩
  rw [hq,Option.getD_some]
  have hql:=hm q (aK hq)
  have h2:=(eV q 46 (by omega)).frozen
  have h3:∀ a ∈ aF 46 q,Sem Tryz.prog 101 [.str a] (.bool (cA a)):=fun a ha=>mZ a (by have:=gV ha;omega)
  have h4:∀ a ∈ aF 46 q,∀ m,Sem Tryz.prog 102 [.str a,.int .i64 m] (.tup [.int .i64 (eQ a).1,.bool (nN a m)]):=fun a ha m=>zAI a m (by have:=gV ha;omega)
  have h5:=fZ (c:=46) q
  have h6:=iI (c:=46) q
  generalize aF 46 q=l2 at h2 h3 h4 h5 h6 ⊢
  have hN:∀ a ∈ l,Sem Tryz.prog 41 [.str a] (.bool (aR a)):=fun a ha=>dE a (by have:=hm a ha;omega)
  generalize hr:(if (if (l.take m).all aR=true then fY (l.take m) l2 else (zW,false)).2=true then ((if (l.take m).all aR=true then fY (l.take m) l2 else (zW,false)).1,(0:Int)) else (zW,10))=r
  refine si [2,5,4000005,5000010] func64 ?_
  repeat'((conv=>whnf);first|((with_reducible apply DrawI.at 30 aX);exact rfl;kernel_rfl)|with_reducible apply ExE.go|((with_reducible apply EqF.mk);exact rfl)|with_reducible apply AndI.mk|with_reducible exact trivial|(try(first|apply eN|apply eI|apply eC);conv=>whnf);apply sD;(focus(try intro hc;have hc0:=hc;(try simp only[aA]at hc);try refine aE ?_);first|exact gx h1|exact cU|exact aC)|(first|apply dG|apply kB);kernel_rfl|apply rR|apply rE|apply rH| (apply cD<;>intro hb<;>(try simp only[aA]at hb)<;>try exact aM))
  all_goals try exact false
  refine aL (M:=fun t=>gF t [2,5,4000005,5000010]) hT hM (fun i:Nat => [(6,.int .i64 i),(5,.obj [zKF l i,.str [],.int .i64 0,.int .i64 0])]) (fun i=>i≤m∧(l.take i).all aR=true) (fun i=>m - i) (0) ?_ ?_ ?_
  ·exact aV
  ·exact ⟨by omega,rfl⟩
  ·rintro i ⟨hi,hall⟩
   rcases Nat.lt_or_ge i m with hlt|hge
   ·obtain ⟨a,ha⟩:∃ a,l[i]?=some a:=⟨l[i],by simp⟩
    have hna:=hN a (aK ha)
    have hb1:aR a=false→(l.take m).all aR=false:=fun h=>by
     rw [List.all_eq_false]
     exact ⟨a,List.mem_take_iff_getElem.2 ⟨i,by omega,(List.getElem?_eq_some_iff.1 ha).2⟩,by simp [h]⟩
    have hb2:aR a=true→(l.take (i+1)).all aR=true:=fun h=>by
     rw [eZ ha,List.all_append,hall]
     simp [h]
    generalize aR a=b at hna hb1 hb2
    rcases i with _|i
    ·repeat'((conv=>whnf);first|((with_reducible apply DrawI.at 30 aX);exact rfl;kernel_rfl)|with_reducible apply ExE.go|((with_reducible apply EqF.mk);exact rfl)|with_reducible apply AndI.mk|with_reducible exact trivial|(try(first|apply eN|apply eI|apply eC);conv=>whnf);apply sD;(focus(try intro hc;have hc0:=hc;(try simp only[aA]at hc);try refine aE ?_);first|exact gx hna|exact cU|exact aC)|(first|apply dG|apply kB);kernel_rfl|apply rR|apply rE|apply rH| (apply cD<;>intro hb<;>(try simp only[aA]at hb)<;>try exact aM))
     all_goals try exact false
     ·rw [hb1 (by simp_all)] at hr
      replace hr:(zW,(10:Int))=r:=hr
      subst hr
      repeat' ((conv=>whnf);first|exact aI|with_reducible first|apply And.intro|apply oR|apply oN|apply dC)
      all_goals (conv=>whnf)
      simp only [zW,Wy.row]
      (first|refine aG ?_|refine aB ?_|skip)
      repeat' (first|exact bE|exact aO|with_reducible apply dC|with_reducible apply aB)
     ·refine ⟨1,⟨by omega,hb2 (by simp_all)⟩,by omega,?_⟩
      (conv=>whnf)
      refine ⟨?_,by rfl⟩
      repeat' ((conv=>whnf);first|exact bE|((rw [zR ha];exact DLe.refl _))|exact aO|with_reducible apply dC)
    ·repeat'((conv=>whnf);first|((with_reducible apply DrawI.at 30 aX);exact rfl;kernel_rfl)|with_reducible apply ExE.go|((with_reducible apply EqF.mk);exact rfl)|with_reducible apply AndI.mk|with_reducible exact trivial|(try(first|apply eN|apply eI|apply eC);conv=>whnf);apply sD;(focus(try intro hc;have hc0:=hc;(try simp only[aA]at hc);try refine aE ?_);first|exact gx hna|exact cU|exact aC)|(first|apply dG|apply kB);kernel_rfl|apply rR|apply rE|apply rH| (apply cD<;>intro hb<;>(try simp only[aA]at hb)<;>try exact aM))
     all_goals try exact false
     ·rw [hb1 (by simp_all)] at hr
      replace hr:(zW,(10:Int))=r:=hr
      subst hr
      repeat' ((conv=>whnf);first|exact aI|with_reducible first|apply And.intro|apply oR|apply oN|apply dC)
      all_goals (conv=>whnf)
      simp only [zW,Wy.row]
      (first|refine aG ?_|refine aB ?_|skip)
      repeat' (first|exact bE|exact aO|with_reducible apply dC|with_reducible apply aB)
     ·refine ⟨i+1+1,⟨by omega,hb2 (by simp_all)⟩,by omega,?_⟩
      (conv=>whnf)
      refine ⟨?_,by rfl⟩
      repeat' ((conv=>whnf);first|exact bE|((rw [zR ha];exact DLe.refl _))|exact aO|with_reducible apply dC)
   ·obtain rfl:i=m:=by omega
    rw [if_pos hall] at hr
    generalize hns:l.take i=ns at hr
    rcases i with _|i
    ·obtain rfl : []=ns:=hns
     rcases l2 with _|⟨a,_|⟨b,_|⟨c,_|⟨d,t⟩⟩⟩⟩
     ·exact absurd rfl h5
     ·have ha:=h3 a (by simp)
      rw [fY] at hr
      generalize cA a=q1 at ha hr
      cases q1
      ·repeat'((conv=>whnf);first|((with_reducible apply DrawI.at 30 aX);exact rfl;kernel_rfl)|with_reducible apply ExE.go|((with_reducible apply EqF.mk);exact rfl)|with_reducible apply AndI.mk|with_reducible exact trivial|(try(first|apply eN|apply eI|apply eC);conv=>whnf);apply sD;(focus(try intro hc;have hc0:=hc;(try simp only[aA]at hc);try refine aE ?_);first|exact gx h2|exact gx ha|exact cU|(exact aP hq (by omega))|exact aC)|(first|apply dG|apply kB);kernel_rfl|apply rR|apply rE|apply rH| (apply cD<;>intro hb<;>(try simp only[aA]at hb)<;>try exact aM))
       all_goals try exact false
       replace hr:(zW,(10:Int))=r:=hr
       subst hr
       repeat' ((conv=>whnf);first|exact aI|with_reducible first|apply And.intro|apply oR|apply oN|apply dC)
       all_goals (conv=>whnf)
       simp only [zW,Wy.row,List.map_nil]
       (first|refine aG ?_|refine aB ?_|skip)
       repeat' (first|exact bE|exact aO|with_reducible apply dC|with_reducible apply aB)
      ·repeat'((conv=>whnf);first|((with_reducible apply DrawI.at 30 aX);exact rfl;kernel_rfl)|with_reducible apply ExE.go|((with_reducible apply EqF.mk);exact rfl)|with_reducible apply AndI.mk|with_reducible exact trivial|(try(first|apply eN|apply eI|apply eC);conv=>whnf);apply sD;(focus(try intro hc;have hc0:=hc;(try simp only[aA]at hc);try refine aE ?_);first|exact gx h2|exact gx ha|exact cU|(exact aP hq (by omega))|exact aC)|(first|apply dG|apply kB);kernel_rfl|apply rR|apply rE|apply rH| (apply cD<;>intro hb<;>(try simp only[aA]at hb)<;>try exact aM))
       all_goals try exact false
       replace hr:(([],a,0,0),(0:Int))=r:=hr
       subst hr
       repeat' ((conv=>whnf);first|exact aI|with_reducible first|apply And.intro|apply oR|apply oN|apply dC)
       all_goals (conv=>whnf)
       simp only [zW,Wy.row,List.map_nil]
       (first|refine aG ?_|refine aB ?_|skip)
       repeat' (first|exact bE|exact aO|with_reducible apply dC|with_reducible apply aB)
     ·have ha:=h3 a (by simp)
      have hb1:=h4 b (by simp) 50
      rw [fY] at hr
      generalize cA a=q1 at ha hr
      generalize eQ b=nb at hb1 hr
      generalize nN b 50=ob at hb1 hr
      cases q1<;>cases ob
      ·repeat'((conv=>whnf);first|((with_reducible apply DrawI.at 30 aX);exact rfl;kernel_rfl)|with_reducible apply ExE.go|((with_reducible apply EqF.mk);exact rfl)|with_reducible apply AndI.mk|with_reducible exact trivial|(try(first|apply eN|apply eI|apply eC);conv=>whnf);apply sD;(focus(try intro hc;have hc0:=hc;(try simp only[aA]at hc);try refine aE ?_);first|exact gx h2|exact gx ha|exact gx hb1|exact cU|(exact aP hq (by omega))|exact aC)|(first|apply dG|apply kB);kernel_rfl|apply rR|apply rE|apply rH| (apply cD<;>intro hb<;>(try simp only[aA]at hb)<;>try exact aM))
       all_goals try exact false
       replace hr:(zW,(10:Int))=r:=hr
       subst hr
       repeat' ((conv=>whnf);first|exact aI|with_reducible first|apply And.intro|apply oR|apply oN|apply dC)
       all_goals (conv=>whnf)
       simp only [zW,Wy.row,List.map_nil]
       (first|refine aG ?_|refine aB ?_|skip)
       repeat' (first|exact bE|exact aO|with_reducible apply dC|with_reducible apply aB)
      ·repeat'((conv=>whnf);first|((with_reducible apply DrawI.at 30 aX);exact rfl;kernel_rfl)|with_reducible apply ExE.go|((with_reducible apply EqF.mk);exact rfl)|with_reducible apply AndI.mk|with_reducible exact trivial|(try(first|apply eN|apply eI|apply eC);conv=>whnf);apply sD;(focus(try intro hc;have hc0:=hc;(try simp only[aA]at hc);try refine aE ?_);first|exact gx h2|exact gx ha|exact gx hb1|exact cU|(exact aP hq (by omega))|exact aC)|(first|apply dG|apply kB);kernel_rfl|apply rR|apply rE|apply rH| (apply cD<;>intro hb<;>(try simp only[aA]at hb)<;>try exact aM))
       all_goals try exact false
       replace hr:(zW,(10:Int))=r:=hr
       subst hr
       repeat' ((conv=>whnf);first|exact aI|with_reducible first|apply And.intro|apply oR|apply oN|apply dC)
       all_goals (conv=>whnf)
       simp only [zW,Wy.row,List.map_nil]
       (first|refine aG ?_|refine aB ?_|skip)
       repeat' (first|exact bE|exact aO|with_reducible apply dC|with_reducible apply aB)
      ·repeat'((conv=>whnf);first|((with_reducible apply DrawI.at 30 aX);exact rfl;kernel_rfl)|with_reducible apply ExE.go|((with_reducible apply EqF.mk);exact rfl)|with_reducible apply AndI.mk|with_reducible exact trivial|(try(first|apply eN|apply eI|apply eC);conv=>whnf);apply sD;(focus(try intro hc;have hc0:=hc;(try simp only[aA]at hc);try refine aE ?_);first|exact gx h2|exact gx ha|exact gx hb1|exact cU|(exact aP hq (by omega))|exact aC)|(first|apply dG|apply kB);kernel_rfl|apply rR|apply rE|apply rH| (apply cD<;>intro hb<;>(try simp only[aA]at hb)<;>try exact aM))
       all_goals try exact false
       replace hr:(zW,(10:Int))=r:=hr
       subst hr
       repeat' ((conv=>whnf);first|exact aI|with_reducible first|apply And.intro|apply oR|apply oN|apply dC)
       all_goals (conv=>whnf)
       simp only [zW,Wy.row,List.map_nil]
       (first|refine aG ?_|refine aB ?_|skip)
       repeat' (first|exact bE|exact aO|with_reducible apply dC|with_reducible apply aB)
      ·repeat'((conv=>whnf);first|((with_reducible apply DrawI.at 30 aX);exact rfl;kernel_rfl)|with_reducible apply ExE.go|((with_reducible apply EqF.mk);exact rfl)|with_reducible apply AndI.mk|with_reducible exact trivial|(try(first|apply eN|apply eI|apply eC);conv=>whnf);apply sD;(focus(try intro hc;have hc0:=hc;(try simp only[aA]at hc);try refine aE ?_);first|exact gx h2|exact gx ha|exact gx hb1|exact cU|(exact aP hq (by omega))|exact aC)|(first|apply dG|apply kB);kernel_rfl|apply rR|apply rE|apply rH| (apply cD<;>intro hb<;>(try simp only[aA]at hb)<;>try exact aM))
       all_goals try exact false
       replace hr:(([],a,nb.1,0),(0:Int))=r:=hr
       subst hr
       repeat' ((conv=>whnf);first|exact aI|with_reducible first|apply And.intro|apply oR|apply oN|apply dC)
       all_goals (conv=>whnf)
       simp only [zW,Wy.row,List.map_nil]
       (first|refine aG ?_|refine aB ?_|skip)
       repeat' (first|exact bE|exact aO|with_reducible apply dC|with_reducible apply aB)
     ·have ha:=h3 a (by simp)
      have hb1:=h4 b (by simp) 50
      have hb2:=h4 c (by simp) 20
      rw [fY] at hr
      generalize cA a=q1 at ha hr
      generalize eQ b=nb at hb1 hr
      generalize nN b 50=ob at hb1 hr
      generalize eQ c=nc at hb2 hr
      generalize nN c 20=oc at hb2 hr
      cases q1<;>cases ob<;>cases oc
      ·repeat'((conv=>whnf);first|((with_reducible apply DrawI.at 30 aX);exact rfl;kernel_rfl)|with_reducible apply ExE.go|((with_reducible apply EqF.mk);exact rfl)|with_reducible apply AndI.mk|with_reducible exact trivial|(try(first|apply eN|apply eI|apply eC);conv=>whnf);apply sD;(focus(try intro hc;have hc0:=hc;(try simp only[aA]at hc);try refine aE ?_);first|exact gx h2|exact gx ha|exact gx hb1|exact gx hb2|exact cU|(exact aP hq (by omega))|exact aC)|(first|apply dG|apply kB);kernel_rfl|apply rR|apply rE|apply rH| (apply cD<;>intro hb<;>(try simp only[aA]at hb)<;>try exact aM))
       all_goals try exact false
       replace hr:(zW,(10:Int))=r:=hr
       subst hr
       repeat' ((conv=>whnf);first|exact aI|with_reducible first|apply And.intro|apply oR|apply oN|apply dC)
       all_goals (conv=>whnf)
       simp only [zW,Wy.row,List.map_nil]
       (first|refine aG ?_|refine aB ?_|skip)
       repeat' (first|exact bE|exact aO|with_reducible apply dC|with_reducible apply aB)
      ·repeat'((conv=>whnf);first|((with_reducible apply DrawI.at 30 aX);exact rfl;kernel_rfl)|with_reducible apply ExE.go|((with_reducible apply EqF.mk);exact rfl)|with_reducible apply AndI.mk|with_reducible exact trivial|(try(first|apply eN|apply eI|apply eC);conv=>whnf);apply sD;(focus(try intro hc;have hc0:=hc;(try simp only[aA]at hc);try refine aE ?_);first|exact gx h2|exact gx ha|exact gx hb1|exact gx hb2|exact cU|(exact aP hq (by omega))|exact aC)|(first|apply dG|apply kB);kernel_rfl|apply rR|apply rE|apply rH| (apply cD<;>intro hb<;>(try simp only[aA]at hb)<;>try exact aM))
       all_goals try exact false
       replace hr:(zW,(10:Int))=r:=hr
       subst hr
       repeat' ((conv=>whnf);first|exact aI|with_reducible first|apply And.intro|apply oR|apply oN|apply dC)
       all_goals (conv=>whnf)
       simp only [zW,Wy.row,List.map_nil]
       (first|refine aG ?_|refine aB ?_|skip)
       repeat' (first|exact bE|exact aO|with_reducible apply dC|with_reducible apply aB)
      ·repeat'((conv=>whnf);first|((with_reducible apply DrawI.at 30 aX);exact rfl;kernel_rfl)|with_reducible apply ExE.go|((with_reducible apply EqF.mk);exact rfl)|with_reducible apply AndI.mk|with_reducible exact trivial|(try(first|apply eN|apply eI|apply eC);conv=>whnf);apply sD;(focus(try intro hc;have hc0:=hc;(try simp only[aA]at hc);try refine aE ?_);first|exact gx h2|exact gx ha|exact gx hb1|exact gx hb2|exact cU|(exact aP hq (by omega))|exact aC)|(first|apply dG|apply kB);kernel_rfl|apply rR|apply rE|apply rH| (apply cD<;>intro hb<;>(try simp only[aA]at hb)<;>try exact aM))
       all_goals try exact false
       replace hr:(zW,(10:Int))=r:=hr
       subst hr
       repeat' ((conv=>whnf);first|exact aI|with_reducible first|apply And.intro|apply oR|apply oN|apply dC)
       all_goals (conv=>whnf)
       simp only [zW,Wy.row,List.map_nil]
       (first|refine aG ?_|refine aB ?_|skip)
       repeat' (first|exact bE|exact aO|with_reducible apply dC|with_reducible apply aB)
      ·repeat'((conv=>whnf);first|((with_reducible apply DrawI.at 30 aX);exact rfl;kernel_rfl)|with_reducible apply ExE.go|((with_reducible apply EqF.mk);exact rfl)|with_reducible apply AndI.mk|with_reducible exact trivial|(try(first|apply eN|apply eI|apply eC);conv=>whnf);apply sD;(focus(try intro hc;have hc0:=hc;(try simp only[aA]at hc);try refine aE ?_);first|exact gx h2|exact gx ha|exact gx hb1|exact gx hb2|exact cU|(exact aP hq (by omega))|exact aC)|(first|apply dG|apply kB);kernel_rfl|apply rR|apply rE|apply rH| (apply cD<;>intro hb<;>(try simp only[aA]at hb)<;>try exact aM))
       all_goals try exact false
       replace hr:(zW,(10:Int))=r:=hr
       subst hr
       repeat' ((conv=>whnf);first|exact aI|with_reducible first|apply And.intro|apply oR|apply oN|apply dC)
       all_goals (conv=>whnf)
       simp only [zW,Wy.row,List.map_nil]
       (first|refine aG ?_|refine aB ?_|skip)
       repeat' (first|exact bE|exact aO|with_reducible apply dC|with_reducible apply aB)
      ·repeat'((conv=>whnf);first|((with_reducible apply DrawI.at 30 aX);exact rfl;kernel_rfl)|with_reducible apply ExE.go|((with_reducible apply EqF.mk);exact rfl)|with_reducible apply AndI.mk|with_reducible exact trivial|(try(first|apply eN|apply eI|apply eC);conv=>whnf);apply sD;(focus(try intro hc;have hc0:=hc;(try simp only[aA]at hc);try refine aE ?_);first|exact gx h2|exact gx ha|exact gx hb1|exact gx hb2|exact cU|(exact aP hq (by omega))|exact aC)|(first|apply dG|apply kB);kernel_rfl|apply rR|apply rE|apply rH| (apply cD<;>intro hb<;>(try simp only[aA]at hb)<;>try exact aM))
       all_goals try exact false
       replace hr:(zW,(10:Int))=r:=hr
       subst hr
       repeat' ((conv=>whnf);first|exact aI|with_reducible first|apply And.intro|apply oR|apply oN|apply dC)
       all_goals (conv=>whnf)
       simp only [zW,Wy.row,List.map_nil]
       (first|refine aG ?_|refine aB ?_|skip)
       repeat' (first|exact bE|exact aO|with_reducible apply dC|with_reducible apply aB)
      ·repeat'((conv=>whnf);first|((with_reducible apply DrawI.at 30 aX);exact rfl;kernel_rfl)|with_reducible apply ExE.go|((with_reducible apply EqF.mk);exact rfl)|with_reducible apply AndI.mk|with_reducible exact trivial|(try(first|apply eN|apply eI|apply eC);conv=>whnf);apply sD;(focus(try intro hc;have hc0:=hc;(try simp only[aA]at hc);try refine aE ?_);first|exact gx h2|exact gx ha|exact gx hb1|exact gx hb2|exact cU|(exact aP hq (by omega))|exact aC)|(first|apply dG|apply kB);kernel_rfl|apply rR|apply rE|apply rH| (apply cD<;>intro hb<;>(try simp only[aA]at hb)<;>try exact aM))
       all_goals try exact false
       replace hr:(zW,(10:Int))=r:=hr
       subst hr
       repeat' ((conv=>whnf);first|exact aI|with_reducible first|apply And.intro|apply oR|apply oN|apply dC)
       all_goals (conv=>whnf)
       simp only [zW,Wy.row,List.map_nil]
       (first|refine aG ?_|refine aB ?_|skip)
       repeat' (first|exact bE|exact aO|with_reducible apply dC|with_reducible apply aB)
      ·repeat'((conv=>whnf);first|((with_reducible apply DrawI.at 30 aX);exact rfl;kernel_rfl)|with_reducible apply ExE.go|((with_reducible apply EqF.mk);exact rfl)|with_reducible apply AndI.mk|with_reducible exact trivial|(try(first|apply eN|apply eI|apply eC);conv=>whnf);apply sD;(focus(try intro hc;have hc0:=hc;(try simp only[aA]at hc);try refine aE ?_);first|exact gx h2|exact gx ha|exact gx hb1|exact gx hb2|exact cU|(exact aP hq (by omega))|exact aC)|(first|apply dG|apply kB);kernel_rfl|apply rR|apply rE|apply rH| (apply cD<;>intro hb<;>(try simp only[aA]at hb)<;>try exact aM))
       all_goals try exact false
       replace hr:(zW,(10:Int))=r:=hr
       subst hr
       repeat' ((conv=>whnf);first|exact aI|with_reducible first|apply And.intro|apply oR|apply oN|apply dC)
       all_goals (conv=>whnf)
       simp only [zW,Wy.row,List.map_nil]
       (first|refine aG ?_|refine aB ?_|skip)
       repeat' (first|exact bE|exact aO|with_reducible apply dC|with_reducible apply aB)
      ·repeat'((conv=>whnf);first|((with_reducible apply DrawI.at 30 aX);exact rfl;kernel_rfl)|with_reducible apply ExE.go|((with_reducible apply EqF.mk);exact rfl)|with_reducible apply AndI.mk|with_reducible exact trivial|(try(first|apply eN|apply eI|apply eC);conv=>whnf);apply sD;(focus(try intro hc;have hc0:=hc;(try simp only[aA]at hc);try refine aE ?_);first|exact gx h2|exact gx ha|exact gx hb1|exact gx hb2|exact cU|(exact aP hq (by omega))|exact aC)|(first|apply dG|apply kB);kernel_rfl|apply rR|apply rE|apply rH| (apply cD<;>intro hb<;>(try simp only[aA]at hb)<;>try exact aM))
       all_goals try exact false
       replace hr:(([],a,nb.1,nc.1),(0:Int))=r:=hr
       subst hr
       repeat' ((conv=>whnf);first|exact aI|with_reducible first|apply And.intro|apply oR|apply oN|apply dC)
       all_goals (conv=>whnf)
       simp only [zW,Wy.row,List.map_nil]
       (first|refine aG ?_|refine aB ?_|skip)
       repeat' (first|exact bE|exact aO|with_reducible apply dC|with_reducible apply aB)
     ·have ha:=h3 a (by simp)
      repeat'((conv=>whnf);first|((with_reducible apply DrawI.at 30 aX);exact rfl;kernel_rfl)|with_reducible apply ExE.go|((with_reducible apply EqF.mk);exact rfl)|with_reducible apply AndI.mk|with_reducible exact trivial|(try(first|apply eN|apply eI|apply eC);conv=>whnf);apply sD;(focus(try intro hc;have hc0:=hc;(try simp only[aA]at hc);try refine aE ?_);first|exact gx h2|exact gx ha|exact cU|(exact aP hq (by omega))|exact aC)|(first|apply dG|apply kB);kernel_rfl|apply rR|apply rE|apply rH| (apply cD<;>intro hb<;>(try simp only[aA]at hb)<;>try exact aM))
      all_goals try exact false
      replace hr:(zW,(10:Int))=r:=hr
      subst hr
      repeat' ((conv=>whnf);first|exact aI|with_reducible first|apply And.intro|apply oR|apply oN|apply dC)
      all_goals (conv=>whnf)
      simp only [zW,Wy.row,List.map_nil]
      (first|refine aG ?_|refine aB ?_|skip)
      repeat' (first|exact bE|exact aO|with_reducible apply dC|with_reducible apply aB)
    ·obtain rfl:l.take (i+1)=ns:=hns
     rcases l2 with _|⟨a,_|⟨b,_|⟨c,_|⟨d,t⟩⟩⟩⟩
     ·exact absurd rfl h5
     ·have ha:=h3 a (by simp)
      rw [fY] at hr
      generalize cA a=q1 at ha hr
      cases q1
      ·repeat'((conv=>whnf);first|((with_reducible apply DrawI.at 30 aX);exact rfl;kernel_rfl)|with_reducible apply ExE.go|((with_reducible apply EqF.mk);exact rfl)|with_reducible apply AndI.mk|with_reducible exact trivial|(try(first|apply eN|apply eI|apply eC);conv=>whnf);apply sD;(focus(try intro hc;have hc0:=hc;(try simp only[aA]at hc);try refine aE ?_);first|exact gx h2|exact gx ha|exact cU|(exact aP hq (by omega))|exact aC)|(first|apply dG|apply kB);kernel_rfl|apply rR|apply rE|apply rH| (apply cD<;>intro hb<;>(try simp only[aA]at hb)<;>try exact aM))
       all_goals try exact false
       replace hr:(zW,(10:Int))=r:=hr
       subst hr
       repeat' ((conv=>whnf);first|exact aI|with_reducible first|apply And.intro|apply oR|apply oN|apply dC)
       all_goals (conv=>whnf)
       simp only [zW,Wy.row,List.map_nil]
       (first|refine aG ?_|refine aB ?_|skip)
       repeat' (first|exact bE|exact aO|with_reducible apply dC|with_reducible apply aB)
      ·repeat'((conv=>whnf);first|((with_reducible apply DrawI.at 30 aX);exact rfl;kernel_rfl)|with_reducible apply ExE.go|((with_reducible apply EqF.mk);exact rfl)|with_reducible apply AndI.mk|with_reducible exact trivial|(try(first|apply eN|apply eI|apply eC);conv=>whnf);apply sD;(focus(try intro hc;have hc0:=hc;(try simp only[aA]at hc);try refine aE ?_);first|exact gx h2|exact gx ha|exact cU|(exact aP hq (by omega))|exact aC)|(first|apply dG|apply kB);kernel_rfl|apply rR|apply rE|apply rH| (apply cD<;>intro hb<;>(try simp only[aA]at hb)<;>try exact aM))
       all_goals try exact false
       replace hr:((l.take (i+1),a,0,0),(0:Int))=r:=hr
       subst hr
       repeat' ((conv=>whnf);first|exact aI|with_reducible first|apply And.intro|apply oR|apply oN|apply dC)
       all_goals (conv=>whnf)
       simp only [zW,Wy.row,List.map_nil]
       (first|refine aG ?_|refine aB ?_|skip)
       repeat' (first|exact bE|exact aO|with_reducible apply dC|with_reducible apply aB)
     ·have ha:=h3 a (by simp)
      have hb1:=h4 b (by simp) 50
      rw [fY] at hr
      generalize cA a=q1 at ha hr
      generalize eQ b=nb at hb1 hr
      generalize nN b 50=ob at hb1 hr
      cases q1<;>cases ob
      ·repeat'((conv=>whnf);first|((with_reducible apply DrawI.at 30 aX);exact rfl;kernel_rfl)|with_reducible apply ExE.go|((with_reducible apply EqF.mk);exact rfl)|with_reducible apply AndI.mk|with_reducible exact trivial|(try(first|apply eN|apply eI|apply eC);conv=>whnf);apply sD;(focus(try intro hc;have hc0:=hc;(try simp only[aA]at hc);try refine aE ?_);first|exact gx h2|exact gx ha|exact gx hb1|exact cU|(exact aP hq (by omega))|exact aC)|(first|apply dG|apply kB);kernel_rfl|apply rR|apply rE|apply rH| (apply cD<;>intro hb<;>(try simp only[aA]at hb)<;>try exact aM))
       all_goals try exact false
       replace hr:(zW,(10:Int))=r:=hr
       subst hr
       repeat' ((conv=>whnf);first|exact aI|with_reducible first|apply And.intro|apply oR|apply oN|apply dC)
       all_goals (conv=>whnf)
       simp only [zW,Wy.row,List.map_nil]
       (first|refine aG ?_|refine aB ?_|skip)
       repeat' (first|exact bE|exact aO|with_reducible apply dC|with_reducible apply aB)
      ·repeat'((conv=>whnf);first|((with_reducible apply DrawI.at 30 aX);exact rfl;kernel_rfl)|with_reducible apply ExE.go|((with_reducible apply EqF.mk);exact rfl)|with_reducible apply AndI.mk|with_reducible exact trivial|(try(first|apply eN|apply eI|apply eC);conv=>whnf);apply sD;(focus(try intro hc;have hc0:=hc;(try simp only[aA]at hc);try refine aE ?_);first|exact gx h2|exact gx ha|exact gx hb1|exact cU|(exact aP hq (by omega))|exact aC)|(first|apply dG|apply kB);kernel_rfl|apply rR|apply rE|apply rH| (apply cD<;>intro hb<;>(try simp only[aA]at hb)<;>try exact aM))
       all_goals try exact false
       replace hr:(zW,(10:Int))=r:=hr
       subst hr
       repeat' ((conv=>whnf);first|exact aI|with_reducible first|apply And.intro|apply oR|apply oN|apply dC)
       all_goals (conv=>whnf)
       simp only [zW,Wy.row,List.map_nil]
       (first|refine aG ?_|refine aB ?_|skip)
       repeat' (first|exact bE|exact aO|with_reducible apply dC|with_reducible apply aB)
      ·repeat'((conv=>whnf);first|((with_reducible apply DrawI.at 30 aX);exact rfl;kernel_rfl)|with_reducible apply ExE.go|((with_reducible apply EqF.mk);exact rfl)|with_reducible apply AndI.mk|with_reducible exact trivial|(try(first|apply eN|apply eI|apply eC);conv=>whnf);apply sD;(focus(try intro hc;have hc0:=hc;(try simp only[aA]at hc);try refine aE ?_);first|exact gx h2|exact gx ha|exact gx hb1|exact cU|(exact aP hq (by omega))|exact aC)|(first|apply dG|apply kB);kernel_rfl|apply rR|apply rE|apply rH| (apply cD<;>intro hb<;>(try simp only[aA]at hb)<;>try exact aM))
       all_goals try exact false
       replace hr:(zW,(10:Int))=r:=hr
       subst hr
       repeat' ((conv=>whnf);first|exact aI|with_reducible first|apply And.intro|apply oR|apply oN|apply dC)
       all_goals (conv=>whnf)
       simp only [zW,Wy.row,List.map_nil]
       (first|refine aG ?_|refine aB ?_|skip)
       repeat' (first|exact bE|exact aO|with_reducible apply dC|with_reducible apply aB)
      ·repeat'((conv=>whnf);first|((with_reducible apply DrawI.at 30 aX);exact rfl;kernel_rfl)|with_reducible apply ExE.go|((with_reducible apply EqF.mk);exact rfl)|with_reducible apply AndI.mk|with_reducible exact trivial|(try(first|apply eN|apply eI|apply eC);conv=>whnf);apply sD;(focus(try intro hc;have hc0:=hc;(try simp only[aA]at hc);try refine aE ?_);first|exact gx h2|exact gx ha|exact gx hb1|exact cU|(exact aP hq (by omega))|exact aC)|(first|apply dG|apply kB);kernel_rfl|apply rR|apply rE|apply rH| (apply cD<;>intro hb<;>(try simp only[aA]at hb)<;>try exact aM))
       all_goals try exact false
       replace hr:((l.take (i+1),a,nb.1,0),(0:Int))=r:=hr
       subst hr
       repeat' ((conv=>whnf);first|exact aI|with_reducible first|apply And.intro|apply oR|apply oN|apply dC)
       all_goals (conv=>whnf)
       simp only [zW,Wy.row,List.map_nil]
       (first|refine aG ?_|refine aB ?_|skip)
       repeat' (first|exact bE|exact aO|with_reducible apply dC|with_reducible apply aB)
     ·have ha:=h3 a (by simp)
      have hb1:=h4 b (by simp) 50
      have hb2:=h4 c (by simp) 20
      rw [fY] at hr
      generalize cA a=q1 at ha hr
      generalize eQ b=nb at hb1 hr
      generalize nN b 50=ob at hb1 hr
      generalize eQ c=nc at hb2 hr
      generalize nN c 20=oc at hb2 hr
      cases q1<;>cases ob<;>cases oc
      ·repeat'((conv=>whnf);first|((with_reducible apply DrawI.at 30 aX);exact rfl;kernel_rfl)|with_reducible apply ExE.go|((with_reducible apply EqF.mk);exact rfl)|with_reducible apply AndI.mk|with_reducible exact trivial|(try(first|apply eN|apply eI|apply eC);conv=>whnf);apply sD;(focus(try intro hc;have hc0:=hc;(try simp only[aA]at hc);try refine aE ?_);first|exact gx h2|exact gx ha|exact gx hb1|exact gx hb2|exact cU|(exact aP hq (by omega))|exact aC)|(first|apply dG|apply kB);kernel_rfl|apply rR|apply rE|apply rH| (apply cD<;>intro hb<;>(try simp only[aA]at hb)<;>try exact aM))
       all_goals try exact false
       replace hr:(zW,(10:Int))=r:=hr
       subst hr
       repeat' ((conv=>whnf);first|exact aI|with_reducible first|apply And.intro|apply oR|apply oN|apply dC)
       all_goals (conv=>whnf)
       simp only [zW,Wy.row,List.map_nil]
       (first|refine aG ?_|refine aB ?_|skip)
       repeat' (first|exact bE|exact aO|with_reducible apply dC|with_reducible apply aB)
      ·repeat'((conv=>whnf);first|((with_reducible apply DrawI.at 30 aX);exact rfl;kernel_rfl)|with_reducible apply ExE.go|((with_reducible apply EqF.mk);exact rfl)|with_reducible apply AndI.mk|with_reducible exact trivial|(try(first|apply eN|apply eI|apply eC);conv=>whnf);apply sD;(focus(try intro hc;have hc0:=hc;(try simp only[aA]at hc);try refine aE ?_);first|exact gx h2|exact gx ha|exact gx hb1|exact gx hb2|exact cU|(exact aP hq (by omega))|exact aC)|(first|apply dG|apply kB);kernel_rfl|apply rR|apply rE|apply rH| (apply cD<;>intro hb<;>(try simp only[aA]at hb)<;>try exact aM))
       all_goals try exact false
       replace hr:(zW,(10:Int))=r:=hr
       subst hr
       repeat' ((conv=>whnf);first|exact aI|with_reducible first|apply And.intro|apply oR|apply oN|apply dC)
       all_goals (conv=>whnf)
       simp only [zW,Wy.row,List.map_nil]
       (first|refine aG ?_|refine aB ?_|skip)
       repeat' (first|exact bE|exact aO|with_reducible apply dC|with_reducible apply aB)
      ·repeat'((conv=>whnf);first|((with_reducible apply DrawI.at 30 aX);exact rfl;kernel_rfl)|with_reducible apply ExE.go|((with_reducible apply EqF.mk);exact rfl)|with_reducible apply AndI.mk|with_reducible exact trivial|(try(first|apply eN|apply eI|apply eC);conv=>whnf);apply sD;(focus(try intro hc;have hc0:=hc;(try simp only[aA]at hc);try refine aE ?_);first|exact gx h2|exact gx ha|exact gx hb1|exact gx hb2|exact cU|(exact aP hq (by omega))|exact aC)|(first|apply dG|apply kB);kernel_rfl|apply rR|apply rE|apply rH| (apply cD<;>intro hb<;>(try simp only[aA]at hb)<;>try exact aM))
       all_goals try exact false
       replace hr:(zW,(10:Int))=r:=hr
       subst hr
       repeat' ((conv=>whnf);first|exact aI|with_reducible first|apply And.intro|apply oR|apply oN|apply dC)
       all_goals (conv=>whnf)
       simp only [zW,Wy.row,List.map_nil]
       (first|refine aG ?_|refine aB ?_|skip)
       repeat' (first|exact bE|exact aO|with_reducible apply dC|with_reducible apply aB)
      ·repeat'((conv=>whnf);first|((with_reducible apply DrawI.at 30 aX);exact rfl;kernel_rfl)|with_reducible apply ExE.go|((with_reducible apply EqF.mk);exact rfl)|with_reducible apply AndI.mk|with_reducible exact trivial|(try(first|apply eN|apply eI|apply eC);conv=>whnf);apply sD;(focus(try intro hc;have hc0:=hc;(try simp only[aA]at hc);try refine aE ?_);first|exact gx h2|exact gx ha|exact gx hb1|exact gx hb2|exact cU|(exact aP hq (by omega))|exact aC)|(first|apply dG|apply kB);kernel_rfl|apply rR|apply rE|apply rH| (apply cD<;>intro hb<;>(try simp only[aA]at hb)<;>try exact aM))
       all_goals try exact false
       replace hr:(zW,(10:Int))=r:=hr
       subst hr
       repeat' ((conv=>whnf);first|exact aI|with_reducible first|apply And.intro|apply oR|apply oN|apply dC)
       all_goals (conv=>whnf)
       simp only [zW,Wy.row,List.map_nil]
       (first|refine aG ?_|refine aB ?_|skip)
       repeat' (first|exact bE|exact aO|with_reducible apply dC|with_reducible apply aB)
      ·repeat'((conv=>whnf);first|((with_reducible apply DrawI.at 30 aX);exact rfl;kernel_rfl)|with_reducible apply ExE.go|((with_reducible apply EqF.mk);exact rfl)|with_reducible apply AndI.mk|with_reducible exact trivial|(try(first|apply eN|apply eI|apply eC);conv=>whnf);apply sD;(focus(try intro hc;have hc0:=hc;(try simp only[aA]at hc);try refine aE ?_);first|exact gx h2|exact gx ha|exact gx hb1|exact gx hb2|exact cU|(exact aP hq (by omega))|exact aC)|(first|apply dG|apply kB);kernel_rfl|apply rR|apply rE|apply rH| (apply cD<;>intro hb<;>(try simp only[aA]at hb)<;>try exact aM))
       all_goals try exact false
       replace hr:(zW,(10:Int))=r:=hr
       subst hr
       repeat' ((conv=>whnf);first|exact aI|with_reducible first|apply And.intro|apply oR|apply oN|apply dC)
       all_goals (conv=>whnf)
       simp only [zW,Wy.row,List.map_nil]
       (first|refine aG ?_|refine aB ?_|skip)
       repeat' (first|exact bE|exact aO|with_reducible apply dC|with_reducible apply aB)
      ·repeat'((conv=>whnf);first|((with_reducible apply DrawI.at 30 aX);exact rfl;kernel_rfl)|with_reducible apply ExE.go|((with_reducible apply EqF.mk);exact rfl)|with_reducible apply AndI.mk|with_reducible exact trivial|(try(first|apply eN|apply eI|apply eC);conv=>whnf);apply sD;(focus(try intro hc;have hc0:=hc;(try simp only[aA]at hc);try refine aE ?_);first|exact gx h2|exact gx ha|exact gx hb1|exact gx hb2|exact cU|(exact aP hq (by omega))|exact aC)|(first|apply dG|apply kB);kernel_rfl|apply rR|apply rE|apply rH| (apply cD<;>intro hb<;>(try simp only[aA]at hb)<;>try exact aM))
       all_goals try exact false
       replace hr:(zW,(10:Int))=r:=hr
       subst hr
       repeat' ((conv=>whnf);first|exact aI|with_reducible first|apply And.intro|apply oR|apply oN|apply dC)
       all_goals (conv=>whnf)
       simp only [zW,Wy.row,List.map_nil]
       (first|refine aG ?_|refine aB ?_|skip)
       repeat' (first|exact bE|exact aO|with_reducible apply dC|with_reducible apply aB)
      ·repeat'((conv=>whnf);first|((with_reducible apply DrawI.at 30 aX);exact rfl;kernel_rfl)|with_reducible apply ExE.go|((with_reducible apply EqF.mk);exact rfl)|with_reducible apply AndI.mk|with_reducible exact trivial|(try(first|apply eN|apply eI|apply eC);conv=>whnf);apply sD;(focus(try intro hc;have hc0:=hc;(try simp only[aA]at hc);try refine aE ?_);first|exact gx h2|exact gx ha|exact gx hb1|exact gx hb2|exact cU|(exact aP hq (by omega))|exact aC)|(first|apply dG|apply kB);kernel_rfl|apply rR|apply rE|apply rH| (apply cD<;>intro hb<;>(try simp only[aA]at hb)<;>try exact aM))
       all_goals try exact false
       replace hr:(zW,(10:Int))=r:=hr
       subst hr
       repeat' ((conv=>whnf);first|exact aI|with_reducible first|apply And.intro|apply oR|apply oN|apply dC)
       all_goals (conv=>whnf)
       simp only [zW,Wy.row,List.map_nil]
       (first|refine aG ?_|refine aB ?_|skip)
       repeat' (first|exact bE|exact aO|with_reducible apply dC|with_reducible apply aB)
      ·repeat'((conv=>whnf);first|((with_reducible apply DrawI.at 30 aX);exact rfl;kernel_rfl)|with_reducible apply ExE.go|((with_reducible apply EqF.mk);exact rfl)|with_reducible apply AndI.mk|with_reducible exact trivial|(try(first|apply eN|apply eI|apply eC);conv=>whnf);apply sD;(focus(try intro hc;have hc0:=hc;(try simp only[aA]at hc);try refine aE ?_);first|exact gx h2|exact gx ha|exact gx hb1|exact gx hb2|exact cU|(exact aP hq (by omega))|exact aC)|(first|apply dG|apply kB);kernel_rfl|apply rR|apply rE|apply rH| (apply cD<;>intro hb<;>(try simp only[aA]at hb)<;>try exact aM))
       all_goals try exact false
       replace hr:((l.take (i+1),a,nb.1,nc.1),(0:Int))=r:=hr
       subst hr
       repeat' ((conv=>whnf);first|exact aI|with_reducible first|apply And.intro|apply oR|apply oN|apply dC)
       all_goals (conv=>whnf)
       simp only [zW,Wy.row,List.map_nil]
       (first|refine aG ?_|refine aB ?_|skip)
       repeat' (first|exact bE|exact aO|with_reducible apply dC|with_reducible apply aB)
     ·have ha:=h3 a (by simp)
      repeat'((conv=>whnf);first|((with_reducible apply DrawI.at 30 aX);exact rfl;kernel_rfl)|with_reducible apply ExE.go|((with_reducible apply EqF.mk);exact rfl)|with_reducible apply AndI.mk|with_reducible exact trivial|(try(first|apply eN|apply eI|apply eC);conv=>whnf);apply sD;(focus(try intro hc;have hc0:=hc;(try simp only[aA]at hc);try refine aE ?_);first|exact gx h2|exact gx ha|exact cU|(exact aP hq (by omega))|exact aC)|(first|apply dG|apply kB);kernel_rfl|apply rR|apply rE|apply rH| (apply cD<;>intro hb<;>(try simp only[aA]at hb)<;>try exact aM))
      all_goals try exact false
      replace hr:(zW,(10:Int))=r:=hr
      subst hr
      repeat' ((conv=>whnf);first|exact aI|with_reducible first|apply And.intro|apply oR|apply oN|apply dC)
      all_goals (conv=>whnf)
      simp only [zW,Wy.row,List.map_nil]
      (first|refine aG ?_|refine aB ?_|skip)
      repeat' (first|exact bE|exact aO|with_reducible apply dC|with_reducible apply aB)
end Go.Proofs.YtnjgoldinaffgaaGreatDoor
