/- Two maps, one behind the other: steps in the place of a list, as the reference finds them (walk). -/
import Derived.Test.YtnjgoldinaffgaaGreatDoorY27
namespace Go.Proofs.YtnjgoldinaffgaaGreatDoor
open _root_.Go.Proofs.Tryz
set_option linter.unusedSimpArgs false
set_option linter.unusedVariables false
open Go.RowKit
set_option maxRecDepth 100000
set_option maxHeartbeats 40000000
@[reducible] def qD:List (List Bool):=[[b0,b0,b0,b0,b0,b0,b0,b0,b0,b0,b0,b0,b0,b0,b0,b0,b0,b0],[b0,b1,b0,b0,b0,b0,b0,b0,b0,b0,b0,b0,b0,b0,b0,b0,b0,b0],[b0,b1,b0,b0,b1,b0,b0,b0,b0,b0,b0,b0,b0,b0,b0,b0,b0,b0],[b0,b1,b0,b0,b1,b0,b0,b0,b1,b0,b0,b0,b0,b0,b0,b0,b0,b0],[b1,b1,b0,b0,b1,b0,b0,b0,b1,b0,b0,b0,b0,b0,b0,b0,b0,b0],[b0,b1,b1,b0,b1,b0,b0,b0,b1,b0,b0,b0,b0,b0,b0,b0,b0,b0],[b0,b1,b0,b0,b1,b0,b0,b0,b1,b0,b0,b0,b0,b0,b1,b0,b0,b0],[b1,b1,b1,b0,b1,b0,b0,b0,b1,b0,b0,b0,b0,b0,b0,b0,b0,b0],[b1,b1,b0,b0,b1,b0,b0,b0,b1,b0,b0,b0,b0,b0,b1,b0,b0,b0],[b0,b1,b1,b1,b1,b0,b0,b0,b1,b0,b0,b0,b0,b0,b0,b0,b0,b0],[b0,b1,b1,b0,b1,b0,b0,b0,b1,b0,b0,b0,b0,b0,b1,b0,b0,b0],[b1,b1,b1,b1,b1,b0,b0,b0,b1,b0,b0,b0,b0,b0,b0,b0,b0,b0],[b1,b1,b1,b0,b1,b0,b0,b0,b1,b0,b0,b0,b0,b0,b1,b0,b0,b0],[b0,b1,b1,b1,b1,b1,b0,b0,b1,b0,b0,b0,b0,b0,b0,b0,b0,b0],[b0,b1,b1,b1,b1,b0,b0,b0,b1,b0,b0,b0,b0,b0,b1,b0,b0,b0],[b1,b1,b1,b1,b1,b1,b0,b0,b1,b0,b0,b0,b0,b0,b0,b0,b0,b0],[b1,b1,b1,b1,b1,b0,b0,b0,b1,b0,b0,b0,b0,b0,b1,b0,b0,b0],[b0,b1,b1,b1,b1,b1,b1,b0,b1,b0,b0,b0,b0,b0,b0,b0,b0,b0],[b0,b1,b1,b1,b1,b1,b0,b0,b1,b0,b0,b0,b0,b0,b1,b0,b0,b0],[b1,b1,b1,b1,b1,b1,b1,b0,b1,b0,b0,b0,b0,b0,b0,b0,b0,b0],[b1,b1,b1,b1,b1,b1,b0,b0,b1,b0,b0,b0,b0,b0,b1,b0,b0,b0],[b0,b1,b1,b1,b1,b1,b1,b1,b1,b0,b0,b0,b0,b0,b0,b0,b0,b0],[b0,b1,b1,b1,b1,b1,b1,b0,b1,b0,b0,b0,b0,b0,b1,b0,b0,b0],[b1,b1,b1,b1,b1,b1,b1,b1,b1,b0,b0,b0,b0,b0,b0,b0,b0,b0],[b1,b1,b1,b1,b1,b1,b1,b0,b1,b0,b0,b0,b0,b0,b1,b0,b0,b0],[b0,b1,b1,b1,b1,b1,b1,b1,b1,b0,b0,b0,b0,b0,b1,b0,b0,b0],[b1,b1,b1,b1,b1,b1,b1,b1,b1,b1,b0,b0,b0,b0,b0,b0,b0,b0],[b1,b1,b1,b1,b1,b1,b1,b1,b1,b0,b0,b0,b0,b0,b1,b0,b0,b0],[b1,b1,b1,b1,b1,b1,b1,b1,b1,b1,b1,b0,b0,b0,b0,b0,b0,b0],[b1,b1,b1,b1,b1,b1,b1,b1,b1,b1,b0,b0,b0,b0,b1,b0,b0,b0],[b1,b1,b1,b1,b1,b1,b1,b1,b1,b1,b1,b1,b0,b0,b0,b0,b0,b0],[b1,b1,b1,b1,b1,b1,b1,b1,b1,b1,b1,b0,b0,b0,b1,b0,b0,b0],[b1,b1,b1,b1,b1,b1,b1,b1,b1,b1,b1,b1,b1,b0,b0,b0,b0,b0],[b1,b1,b1,b1,b1,b1,b1,b1,b1,b1,b1,b1,b0,b0,b1,b0,b0,b0],[b1,b1,b1,b1,b1,b1,b1,b1,b1,b1,b1,b1,b1,b1,b0,b0,b0,b0],[b1,b1,b1,b1,b1,b1,b1,b1,b1,b1,b1,b1,b1,b0,b1,b0,b0,b0],[b1,b1,b1,b1,b1,b1,b1,b1,b1,b1,b1,b1,b1,b1,b1,b0,b0,b0],[b1,b1,b1,b1,b1,b1,b1,b1,b1,b1,b1,b1,b1,b1,b1,b1,b0,b0],[b1,b1,b1,b1,b1,b1,b1,b1,b1,b1,b1,b1,b1,b1,b1,b1,b1,b0],[b1,b1,b1,b1,b1,b1,b1,b1,b1,b1,b1,b1,b1,b1,b1,b1,b1,b1]]
@[reducible] def qC:List (List Bool):=[[b0,b0,b0,b0,b0,b0,b0,b0],[b1,b0,b0,b0,b0,b0,b0,b0],[b0,b0,b1,b0,b0,b0,b0,b0],[b1,b1,b0,b0,b0,b0,b0,b0],[b1,b0,b1,b0,b0,b0,b0,b0],[b0,b0,b1,b1,b0,b0,b0,b0],[b1,b1,b1,b0,b0,b0,b0,b0],[b1,b1,b0,b0,b1,b0,b0,b0],[b1,b0,b1,b1,b0,b0,b0,b0],[b1,b1,b1,b1,b0,b0,b0,b0],[b1,b1,b1,b0,b1,b0,b0,b0],[b1,b1,b0,b0,b1,b1,b0,b0],[b1,b1,b1,b1,b1,b0,b0,b0],[b1,b1,b1,b0,b1,b1,b0,b0],[b1,b1,b1,b1,b1,b1,b0,b0],[b1,b1,b1,b1,b1,b1,b1,b0],[b1,b1,b1,b1,b1,b1,b1,b1]]
def zCe (nm:Str) (tbs:List Tb) (srows:List (List D)) (ss:List MStep):Prop:=∀ (tbs2:List Tb) (l:List MStep) (over:Bool),(∀ x ∈ l,x.Good tbs2)→
  Sem Tryz.prog 17 [.agg [.str nm,.sl 0 2 (tbs.map Tb.row),.sl 0 12 srows],.sl 0 12 (ss.map MStep.row),.sl 0 12 (l.map MStep.row),.bool over] (.tup [.sl 0 12 ((aZ tbs ss l over []).1.map MStep.row),.bool (aZ tbs ss l over []).2])
theorem zKm {tbs:List Tb} {inn:List MStep} {over:Bool} {l acc:List Fld} {i:Nat} {f:Fld} (h:l[i]?=some f):iE tbs inn over (l.drop i) acc=if (nM tbs inn f.vl over).2.2=false then (acc,false) else iE tbs inn over (l.drop (i+1)) (if (nM tbs inn f.vl over).2.1=true then acc ++ [(nM tbs inn f.vl over).1.fld f.el f.pt] else acc):=by
 rw [List.drop_eq_getElem_cons (bC h),(List.getElem?_eq_some_iff.1 h).2,iE]
theorem zDz {m:Nat} {l xs:List MStep} {n o:Str}:DLe (.sl m 12 (l.map MStep.row ++ [[.int .i64 2,.str [],.nil,.str n,.str o,.int .i64 0,.nil,.str [],.nil,.int .i64 0,.int .i64 0,.sl 0 12 (xs.map MStep.row)]])) (.sl m 12 ((l ++ [wJ n o xs]).map MStep.row)):=by
 rw [List.map_append,List.map_cons,List.map_nil,wJ,zeroM,MStep.row_mk]
 refine zDQ (.app (.refl _) (.cons ?_ (.refl _)))
 exact .cons (.refl _) (.cons (.refl _) (.cons (.nil _ _) (.cons (.refl _) (.cons (.refl _) (.cons (.refl _) (.cons (.nil _ _) (.cons (.refl _) (.cons (.nil _ _) (.cons (.refl _) (.cons (.refl _) (.cons (.refl _) .nil)))))))))))
theorem zEQ {o:Str} (ho:bH o=0) (hne:o ≠ []):∃ n0 rs,(fN o).1=n0::rs:=by
 have hn:fN o=(aF 47 o,0):=by
  unfold bH at ho
  unfold fN
  split at ho
  ·cases ho
  ·rename_i h2
   rw [if_neg h2,if_neg hne]
   split at ho
   ·cases ho
   ·rename_i h3
    rw [if_pos (by simpa [hne] using h3)]
 rw [hn]
 cases hp:aF 47 o with
 |nil=>exact absurd hp (fZ o)
 |cons a b=>exact ⟨a,b,rfl⟩
theorem qN{p:Prop}(h:p:=by first|(refine gx (wD ?_ ?_ ?_ ?_ ?_ ?_ ?_ ?_ ?_)<;>exact pre)|(refine gx (zBv ?_ ?_ ?_ ?_ ?_ ?_ ?_ ?_ ?_ ?_)<;>exact pre)|(refine gx (gQ ?_)<;>exact pre)|(refine gx (qI ?_ ?_)<;>exact pre)):p:=h
theorem zDZ (nm:Str) (tbs:List Tb) (ht:aW tbs=0) (srows:List (List D)) (steps:List MStep) (hsl:steps.length≤300) (hg:∀ s ∈ steps,s.Good tbs) (ih:∀ s ∈ steps,zCe nm tbs srows s.kids):zCe nm tbs srows steps:=by
 intro tbs2 l over hl
 have hfl:∀ s ∈ l,s.flds.length≤1000000:=fun s hs=>pY (hl s hs)
 have hll:(steps.map MStep.row).length=steps.length:=List.length_map _
 have hl2:(l.map MStep.row).length=l.length:=List.length_map _
 generalize hr:aZ tbs steps l over []=r
 refine si [12,13,4000013,15,2000015,18,4000018,23,5000013,5000027,1000035,1000069,1000157] func17 ?_
 repeat'((conv=>whnf);first|((with_reducible apply DrawI.at 54 qD);exact rfl;kernel_rfl)|((with_reducible apply DrawI.at 126 qC);exact rfl;kernel_rfl)|with_reducible apply ExE.go|((with_reducible apply EqF.mk);exact rfl)|with_reducible apply AndI.mk|with_reducible exact trivial|(try(first|apply eN|apply eI|apply eC);conv=>whnf);apply sD;(focus(try intro hc;have hc0:=hc;(try simp only[aA]at hc);try refine aE ?_);first|exact qN|exact aC)|(first|apply dG|apply kB);kernel_rfl|apply rR|apply rE|apply rH| (apply cD<;>intro hb<;>(try simp only[aA]at hb)<;>try exact aM))
 all_goals try exact false
 refine aL (M:=fun t=>gF t [12,13,4000013,15,2000015,18,4000018,23,5000013,5000027,1000035,1000069,1000157]) hT hM (fun x:Nat × List MStep => [(11,.int .i64 x.1),(10,.sl 2 12 (x.2.map MStep.row))]) (fun x=>x.1≤steps.length∧aZ tbs (steps.drop x.1) l over x.2=r∧x.2.length≤x.1) (fun x=>steps.length - x.1) ((0,[])) ?_ ?_ ?_
 ·exact aV
 ·exact ⟨Nat.zero_le _,hr,Nat.le_refl _⟩
 ·rintro x ⟨hi,hv,hn⟩
  have hlx:(x.2.map MStep.row).length=x.2.length:=List.length_map _
  cases hx:steps[x.1]? with
  |none=>
   have hm:=List.getElem?_eq_none_iff.1 hx
   rw [List.drop_of_length_le hm,xJ] at hv
   subst hv
   repeat'((conv=>whnf);first|((with_reducible apply DrawI.at 54 qD);exact rfl;kernel_rfl)|((with_reducible apply DrawI.at 126 qC);exact rfl;kernel_rfl)|with_reducible apply ExE.go|((with_reducible apply EqF.mk);exact rfl)|with_reducible apply AndI.mk|with_reducible exact trivial|(try(first|apply eN|apply eI|apply eC);conv=>whnf);apply sD;(focus(try intro hc;have hc0:=hc;(try simp only[aA]at hc);try refine aE ?_);first|exact qN|exact aC)|(first|apply dG|apply kB);kernel_rfl|apply rR|apply rE|apply rH| (apply cD<;>intro hb<;>(try simp only[aA]at hb)<;>try exact aM))
   all_goals try exact false
   exact aT
  |some s=>
   have hlt:=(bC hx)
   have hgs:=hg s (aK hx)
   have ihs:=ih s (aK hx)
   rw [zAC hx] at hv
   obtain ⟨k,t,fs,n,o,⟨ck,cks,cp,cvs,clo,chi⟩,ss⟩:=s
   obtain ⟨he,hss⟩:=cQ hgs
   have h0:=rY he
   rw [zCp] at hv
   by_cases k3:k=3
   ·rw [if_pos k3,if_pos rfl] at hv
    subst hv
    repeat'((conv=>whnf);first|((with_reducible apply DrawI.at 54 qD);exact rfl;kernel_rfl)|((with_reducible apply DrawI.at 126 qC);exact rfl;kernel_rfl)|with_reducible apply ExE.go|((with_reducible apply EqF.mk);exact rfl)|with_reducible apply AndI.mk|with_reducible exact trivial|(try(first|apply eN|apply eI|apply eC);conv=>whnf);apply sD;(focus(try intro hc;have hc0:=hc;(try simp only[aA]at hc);try refine aE ?_);first|exact qN|(exact bN hx rfl)|exact aC)|(first|apply dG|apply kB);kernel_rfl|apply rR|apply rE|apply rH| (apply cD<;>intro hb<;>(try simp only[aA]at hb)<;>try exact aM))
    all_goals try exact false
    exact aT
   ·rw [if_neg k3] at hv
    by_cases k1:k=1
    ·rw [if_pos k1] at hv
     obtain ⟨_,_,_,_,_,hfn,hfv⟩:=h0.seg k1
     clear h0 he hss hgs ihs ih hg hl
     have hlf:(fs.map Fld.row).length=fs.length:=List.length_map _
     generalize hrf:iE tbs l over fs []=rf at hv
     repeat'((conv=>whnf);first|((with_reducible apply DrawI.at 54 qD);exact rfl;kernel_rfl)|((with_reducible apply DrawI.at 126 qC);exact rfl;kernel_rfl)|with_reducible apply ExE.go|((with_reducible apply EqF.mk);exact rfl)|with_reducible apply AndI.mk|with_reducible exact trivial|(try(first|apply eN|apply eI|apply eC);conv=>whnf);apply sD;(focus(try intro hc;have hc0:=hc;(try simp only[aA]at hc);try refine aE ?_);first|exact qN|(exact bN hx rfl)|exact aC)|(first|apply dG|apply kB);kernel_rfl|apply rR|apply rE|apply rH| (apply cD<;>intro hb<;>(try simp only[aA]at hb)<;>try exact aM))
     all_goals try exact false
     refine zKd [(13,2,6),(13,6,6),(13,8,1),(13,11,12)] ?_
     conv=>whnf
     refine aL (M:=fun t=>gF t [12,13,4000013,15,2000015,18,4000018,23,5000013,5000027,1000035,1000069,1000157]) hT hM (fun y:Nat × List Fld => [(14,.int .i64 y.1),(13,.obj [.int .i64 1,.str t,.sl 2 6 (y.2.map Fld.row),.str [],.str [],.int .i64 0,.sl 2 6 [],.str [],.sl 2 1 [],.int .i64 0,.int .i64 0,.sl 2 12 []])]) (fun y=>y.1≤fs.length∧iE tbs l over (fs.drop y.1) y.2=rf∧y.2.length≤y.1) (fun y=>fs.length - y.1) ((0,[])) ?_ ?_ ?_
     ·exact aV
     ·exact ⟨Nat.zero_le _,hrf,Nat.le_refl _⟩
     ·rintro y ⟨hj,hw,hm⟩
      have hly:(y.2.map Fld.row).length=y.2.length:=List.length_map _
      cases hy:fs[y.1]? with
      |none=>
       have hm:=List.getElem?_eq_none_iff.1 hy
       rw [List.drop_of_length_le hm,iE] at hw
       subst hw
       dsimp only at hv
       have bt:¬ true=false:=by decide
       rw [if_neg bt] at hv
       dsimp only at hv
       rw [if_neg bt] at hv
       repeat'((conv=>whnf);first|((with_reducible apply DrawI.at 54 qD);exact rfl;kernel_rfl)|((with_reducible apply DrawI.at 126 qC);exact rfl;kernel_rfl)|with_reducible apply ExE.go|((with_reducible apply EqF.mk);exact rfl)|with_reducible apply AndI.mk|with_reducible exact trivial|(try(first|apply eN|apply eI|apply eC);conv=>whnf);apply sD;(focus(try intro hc;have hc0:=hc;(try simp only[aA]at hc);try refine aE ?_);first|exact qN|exact aC)|(first|apply dG|apply kB);kernel_rfl|apply rR|apply rE|apply rH| (apply cD<;>intro hb<;>(try simp only[aA]at hb)<;>try exact aM))
       all_goals try exact false
       ·rw [if_neg (by omega)] at hv
        refine ⟨(x.1+1,x.2 ++ [zH5 t y.2]),⟨by dsimp only;omega,hv,by simp;omega⟩,by dsimp only;omega,?_⟩
        (conv=>whnf)
        refine ⟨?_,by rfl⟩
        repeat' ((conv=>whnf);first|exact bE|(exact zFc (by dsimp only;rw [List.map_append,List.map_cons,List.map_nil,zH5,zeroM,MStep.row_mk];rfl))|(exact cT (by dsimp only;omega))|exact aO|with_reducible apply dC)
       ·rw [if_pos (by omega)] at hv
        rw [List.append_nil] at hv
        refine ⟨(x.1+1,x.2),⟨by dsimp only;omega,hv,by dsimp only;omega⟩,by dsimp only;omega,?_⟩
        exact aV
      |some f=>
       have hlt2:=(bC hy)
       have hc:=wD nm tbs ht srows l hfl f (hfv f (aK hy)).1 over
       rw [zKm hy] at hw
       generalize nM tbs l f.vl over=rv at hc hw
       obtain ⟨⟨vk,vt,vp,va⟩,is,ok⟩:=rv
       unfold Fld.vl MVal.row at hc
       dsimp only at hc hw
       repeat'((conv=>whnf);first|((with_reducible apply DrawI.at 54 qD);exact rfl;kernel_rfl)|((with_reducible apply DrawI.at 126 qC);exact rfl;kernel_rfl)|with_reducible apply ExE.go|((with_reducible apply EqF.mk);exact rfl)|with_reducible apply AndI.mk|with_reducible exact trivial|(try(first|apply eN|apply eI|apply eC);conv=>whnf);apply sD;(focus(try intro hc;have hc0:=hc;(try simp only[aA]at hc);try refine aE ?_);first|exact gx hc|exact qN|(exact jR hy rfl)|exact aC)|(first|apply dG|apply kB);kernel_rfl|apply rR|apply rE|apply rH| (apply cD<;>intro hb<;>(try simp only[aA]at hb)<;>try exact aM))
       all_goals try exact false
       ·rw [if_pos hb] at hw
        subst hw
        dsimp only at hv
        rw [if_pos rfl] at hv
        dsimp only at hv
        rw [if_pos rfl] at hv
        subst hv
        exact aT
       ·have hok:ok=true:=by assumption
        rw [if_neg (by rw [hok];decide),if_pos hb] at hw
        refine ⟨(y.1+1,y.2 ++ [MVal.fld f.el f.pt ⟨vk,vt,vp,va⟩]),⟨by dsimp only;omega,hw,by simp;omega⟩,by dsimp only;omega,?_⟩
        (conv=>whnf)
        refine ⟨?_,by rfl⟩
        repeat' ((conv=>whnf);first|exact bE|((rw [List.map_append];exact .refl _))|(exact cT (by dsimp only;omega))|exact aO|with_reducible apply dC)
       ·have hok:ok=true:=by assumption
        rw [if_neg (by rw [hok];decide),if_neg (by rw [hb];decide)] at hw
        refine ⟨(y.1+1,y.2),⟨by dsimp only;omega,hw,by dsimp only;omega⟩,by dsimp only;omega,?_⟩
        (conv=>whnf)
        refine ⟨?_,by rfl⟩
        repeat' ((conv=>whnf);first|exact bE|(exact cT (by dsimp only;omega))|exact aO|with_reducible apply dC)
    ·rw [if_neg k1] at hv
     have k2:k=2:=by have:=h0.k1;have:=h0.k3;omega
     by_cases ho:o = []
     ·rw [if_pos ho] at hv
      have hk2:=ihs tbs2 l over hl
      have hks:(MStep.mk k t fs n o (.mk ck cks cp cvs clo chi) ss).kids=ss:=rfl
      rw [hks] at hk2
      generalize aZ tbs ss l over []=q at hv hk2
      obtain ⟨qs,qb⟩:=q
      dsimp only at hv hk2
      clear h0 he hss hgs ihs ih hg hl
      have hqs:(qs.map MStep.row).length=qs.length:=List.length_map _
      repeat'((conv=>whnf);first|((with_reducible apply DrawI.at 54 qD);exact rfl;kernel_rfl)|((with_reducible apply DrawI.at 126 qC);exact rfl;kernel_rfl)|with_reducible apply ExE.go|((with_reducible apply EqF.mk);exact rfl)|with_reducible apply AndI.mk|with_reducible exact trivial|(try(first|apply eN|apply eI|apply eC);conv=>whnf);apply sD;(focus(try intro hc;have hc0:=hc;(try simp only[aA]at hc);try refine aE ?_);first|exact gx hk2|exact qN|(exact bN hx rfl)|exact aC)|(first|apply dG|apply kB);kernel_rfl|apply rR|apply rE|apply rH| (apply cD<;>intro hb<;>(try simp only[aA]at hb)<;>try exact aM))
      all_goals try exact false
      ·rw [if_pos hb] at hv
       dsimp only at hv
       rw [if_pos rfl] at hv
       subst hv
       exact aT
      ·have hqb:qb=true:=by assumption
       have hn0:¬ qs.length=0:=by omega
       subst hqb
       have bt:¬ true=false:=by decide
       rw [if_neg bt,if_neg hn0] at hv
       dsimp only at hv
       rw [if_neg bt] at hv
       refine ⟨(x.1+1,x.2 ++ [wJ n [] qs]),⟨by dsimp only;omega,hv,by simp;omega⟩,by dsimp only;omega,?_⟩
       (conv=>whnf)
       refine ⟨?_,by rfl⟩
       repeat' ((conv=>whnf);first|exact bE|(exact zDz)|(exact cT (by dsimp only;omega))|exact aO|with_reducible apply dC)
      ·have hqb:qb=true:=by assumption
       have hn0:qs.length=0:=by omega
       subst hqb
       have bt:¬ true=false:=by decide
       rw [if_neg bt,if_pos hn0] at hv
       dsimp only at hv
       rw [if_neg bt,List.append_nil] at hv
       refine ⟨(x.1+1,x.2),⟨by dsimp only;omega,hv,by dsimp only;omega⟩,by dsimp only;omega,?_⟩
       (conv=>whnf)
       refine ⟨?_,by rfl⟩
       repeat' ((conv=>whnf);first|exact bE|(exact cT (by dsimp only;omega))|exact aO|with_reducible apply dC)
     ·rw [if_neg ho] at hv
      obtain ⟨_,_,_,_,hge⟩:=h0.grp k2
      obtain ⟨n0,rs,hnr⟩:=zEQ hge ho
      have hN:=gQ o
      have hG:=qI l n0
      rw [hnr] at hv hN
      have hh:(n0::rs).headD []=n0:=rfl
      rw [hh] at hv
      have hlr:(((n0::rs).map fun s => [D.str s])).length=rs.length+1:=by simp
      generalize (fN o).2=nc at hN
      have bt:¬ true=false:=by decide
      by_cases hrs:rs.length=0
      ·have h1:(n0::rs).length=1:=by rw [List.length_cons,hrs]
       rw [if_pos h1] at hv
       cases hga:eE n0 l with
       |none=>
        rw [hga] at hv hG
        dsimp only at hv
        rw [if_pos rfl] at hv
        subst hv
        unfold zGE zM zeroM at hG
        dsimp only at hG
        rw [MStep.row_mk] at hG
        clear h0 he hss hgs ihs ih hg hl
        repeat'((conv=>whnf);first|((with_reducible apply DrawI.at 54 qD);exact rfl;kernel_rfl)|((with_reducible apply DrawI.at 126 qC);exact rfl;kernel_rfl)|with_reducible apply ExE.go|((with_reducible apply EqF.mk);exact rfl)|with_reducible apply AndI.mk|with_reducible exact trivial|(try(first|apply eN|apply eI|apply eC);conv=>whnf);apply sD;(focus(try intro hc;have hc0:=hc;(try simp only[aA]at hc);try refine aE ?_);first|exact gx hN|exact gx hG|exact qN|(exact bN hx rfl)|(exact aP (l:=n0::rs) (k:=0) rfl rfl)|exact aC)|(first|apply dG|apply kB);kernel_rfl|apply rR|apply rE|apply rH| (apply cD<;>intro hb<;>(try simp only[aA]at hb)<;>try exact aM))
        all_goals try exact false
        exact aT
       |some g=>
        rw [hga] at hv hG
        dsimp only at hv
        obtain ⟨gm,_,_⟩:=oS (tbs:=tbs2) hga
        have gkids:∀ x ∈ g.kids,x.Good tbs2:=by
         have:=hl g gm
         obtain ⟨k',t',fs',n',o',c',ss'⟩:=g
         exact (cQ this).2
        have hk2:=ihs tbs2 g.kids true gkids
        have hks:(MStep.mk k t fs n o (.mk ck cks cp cvs clo chi) ss).kids=ss:=rfl
        rw [hks] at hk2
        obtain ⟨⟨qs,qb⟩,hq⟩:∃ q,aZ tbs ss g.kids true []=q:=⟨_,rfl⟩
        simp only [hq] at hv hk2
        clear hq
        obtain ⟨gk,gt,gf,gn,go,⟨gck,gcks,gcp,gcvs,gclo,gchi⟩,gss⟩:=g
        have hgk:(MStep.mk gk gt gf gn go (.mk gck gcks gcp gcvs gclo gchi) gss).kids=gss∧(MStep.mk gk gt gf gn go (.mk gck gcks gcp gcvs gclo gchi) gss).over=go:=⟨rfl,rfl⟩
        rw [hgk.1] at hk2
        rw [hgk.2] at hv
        unfold zGE at hG
        dsimp only at hG
        rw [MStep.row_mk] at hG
        clear h0 he hss hgs ihs ih hg hl gm gkids
        have hqs:(qs.map MStep.row).length=qs.length:=List.length_map _
        repeat'((conv=>whnf);first|((with_reducible apply DrawI.at 54 qD);exact rfl;kernel_rfl)|((with_reducible apply DrawI.at 126 qC);exact rfl;kernel_rfl)|with_reducible apply ExE.go|((with_reducible apply EqF.mk);exact rfl)|with_reducible apply AndI.mk|with_reducible exact trivial|(try(first|apply eN|apply eI|apply eC);conv=>whnf);apply sD;(focus(try intro hc;have hc0:=hc;(try simp only[aA]at hc);try refine aE ?_);first|exact gx hN|exact gx hG|exact gx hk2|exact qN|(exact bN hx rfl)|(exact aP (l:=n0::rs) (k:=0) rfl rfl)|exact aC)|(first|apply dG|apply kB);kernel_rfl|apply rR|apply rE|apply rH| (apply cD<;>intro hb<;>(try simp only[aA]at hb)<;>try exact aM))
        all_goals try exact false
        ·exfalso
         rcases hb with h|h
         ·omega
         ·cases h
        ·rw [if_pos hb] at hv
         dsimp only at hv
         rw [if_pos rfl] at hv
         subst hv
         exact aT
        ·have hqb:qb=true:=by assumption
         have hn0:¬ qs.length=0:=by omega
         subst hqb
         rw [if_neg bt,if_neg hn0] at hv
         dsimp only at hv
         rw [if_neg bt] at hv
         refine ⟨(x.1+1,x.2 ++ [wJ n go qs]),⟨by dsimp only;omega,hv,by simp;omega⟩,by dsimp only;omega,?_⟩
         (conv=>whnf)
         refine ⟨?_,by rfl⟩
         repeat' ((conv=>whnf);first|exact bE|(exact zDz)|(exact cT (by dsimp only;omega))|exact aO|with_reducible apply dC)
        ·have hqb:qb=true:=by assumption
         have hn0:qs.length=0:=by omega
         subst hqb
         rw [if_neg bt,if_pos hn0] at hv
         dsimp only at hv
         rw [if_neg bt,List.append_nil] at hv
         refine ⟨(x.1+1,x.2),⟨by dsimp only;omega,hv,by dsimp only;omega⟩,by dsimp only;omega,?_⟩
         (conv=>whnf)
         refine ⟨?_,by rfl⟩
         repeat' ((conv=>whnf);first|exact bE|(exact cT (by dsimp only;omega))|exact aO|with_reducible apply dC)
      ·have h1:¬ (n0::rs).length=1:=by rw [List.length_cons];omega
       rw [if_neg h1] at hv
       dsimp only at hv
       rw [if_pos rfl] at hv
       subst hv
       generalize zGE (eE n0 l)=q at hG
       obtain ⟨⟨gk,gt,gf,gn,go,⟨gck,gcks,gcp,gcvs,gclo,gchi⟩,gss⟩,gb⟩:=q
       dsimp only at hG
       rw [MStep.row_mk] at hG
       clear h0 he hss hgs ihs ih hg hl
       repeat'((conv=>whnf);first|((with_reducible apply DrawI.at 54 qD);exact rfl;kernel_rfl)|((with_reducible apply DrawI.at 126 qC);exact rfl;kernel_rfl)|with_reducible apply ExE.go|((with_reducible apply EqF.mk);exact rfl)|with_reducible apply AndI.mk|with_reducible exact trivial|(try(first|apply eN|apply eI|apply eC);conv=>whnf);apply sD;(focus(try intro hc;have hc0:=hc;(try simp only[aA]at hc);try refine aE ?_);first|exact gx hN|exact gx hG|exact qN|(exact bN hx rfl)|(exact aP (l:=n0::rs) (k:=0) rfl rfl)|exact aC)|(first|apply dG|apply kB);kernel_rfl|apply rR|apply rE|apply rH| (apply cD<;>intro hb<;>(try simp only[aA]at hb)<;>try exact aM))
       all_goals try exact false
       exact aT
end Go.Proofs.YtnjgoldinaffgaaGreatDoor
