/- Two maps, one behind the other: steps in the place of a list, as the program finds them (walks). -/
import Derived.Test.YtnjgoldinaffgaaGreatDoorY27
namespace Go.Proofs.YtnjgoldinaffgaaGreatDoor
open _root_.Go.Proofs.Tryz
set_option linter.unusedSimpArgs false
set_option linter.unusedVariables false
open Go.RowKit
set_option maxRecDepth 100000
set_option maxHeartbeats 40000000
def kH:List (List Bool) := [[b0,b0,b0,b0,b0,b0,b0,b0],[b1,b0,b0,b0,b0,b0,b0,b0],[b0,b1,b0,b0,b0,b0,b0,b0],[b1,b1,b0,b0,b0,b0,b0,b0],[b1,b0,b0,b0,b0,b1,b0,b0],[b0,b1,b1,b0,b0,b0,b0,b0],[b1,b1,b1,b0,b0,b0,b0,b0],[b1,b1,b0,b0,b0,b1,b0,b0],[b0,b1,b1,b1,b0,b0,b0,b0],[b1,b1,b1,b1,b0,b0,b0,b0],[b1,b1,b1,b0,b0,b1,b0,b0],[b0,b1,b1,b1,b1,b0,b0,b0],[b1,b1,b1,b1,b1,b0,b0,b0],[b1,b1,b1,b1,b0,b1,b0,b0],[b1,b1,b1,b1,b1,b1,b0,b0],[b1,b1,b1,b1,b1,b1,b1,b0],[b1,b1,b1,b1,b1,b1,b1,b1]]
def kG:List (List Bool) := [[b0,b0,b0,b0,b0,b0,b0,b0,b0,b0,b0,b0,b0,b0],[b1,b0,b0,b0,b0,b0,b0,b0,b0,b0,b0,b0,b0,b0],[b1,b1,b0,b0,b0,b0,b0,b0,b0,b0,b0,b0,b0,b0],[b1,b1,b0,b0,b0,b1,b0,b0,b0,b0,b0,b0,b0,b0],[b1,b1,b0,b0,b0,b1,b1,b0,b0,b0,b0,b0,b0,b0],[b1,b1,b1,b0,b0,b1,b1,b0,b0,b0,b0,b0,b0,b0],[b1,b1,b0,b0,b0,b1,b1,b1,b0,b0,b0,b0,b0,b0],[b1,b1,b1,b1,b0,b1,b1,b0,b0,b0,b0,b0,b0,b0],[b1,b1,b1,b0,b0,b1,b1,b1,b0,b0,b0,b0,b0,b0],[b1,b1,b0,b0,b0,b1,b1,b1,b1,b0,b0,b0,b0,b0],[b1,b1,b1,b1,b1,b1,b1,b0,b0,b0,b0,b0,b0,b0],[b1,b1,b1,b1,b0,b1,b1,b1,b0,b0,b0,b0,b0,b0],[b1,b1,b1,b0,b0,b1,b1,b1,b1,b0,b0,b0,b0,b0],[b1,b1,b0,b0,b0,b1,b1,b1,b1,b1,b0,b0,b0,b0],[b1,b1,b1,b1,b1,b1,b1,b1,b0,b0,b0,b0,b0,b0],[b1,b1,b1,b1,b1,b1,b1,b0,b0,b0,b1,b0,b0,b0],[b1,b1,b1,b1,b0,b1,b1,b1,b1,b0,b0,b0,b0,b0],[b1,b1,b1,b0,b0,b1,b1,b1,b1,b1,b0,b0,b0,b0],[b1,b1,b1,b1,b1,b1,b1,b1,b1,b0,b0,b0,b0,b0],[b1,b1,b1,b1,b1,b1,b1,b1,b0,b0,b1,b0,b0,b0],[b1,b1,b1,b1,b1,b1,b1,b0,b0,b0,b1,b1,b0,b0],[b1,b1,b1,b1,b0,b1,b1,b1,b1,b1,b0,b0,b0,b0],[b1,b1,b1,b1,b1,b1,b1,b1,b1,b1,b0,b0,b0,b0],[b1,b1,b1,b1,b1,b1,b1,b1,b1,b0,b1,b0,b0,b0],[b1,b1,b1,b1,b1,b1,b1,b1,b0,b0,b1,b1,b0,b0],[b1,b1,b1,b1,b1,b1,b1,b1,b1,b1,b1,b0,b0,b0],[b1,b1,b1,b1,b1,b1,b1,b1,b1,b0,b1,b1,b0,b0],[b1,b1,b1,b1,b1,b1,b1,b1,b1,b1,b1,b1,b0,b0],[b1,b1,b1,b1,b1,b1,b1,b1,b1,b1,b1,b1,b1,b0],[b1,b1,b1,b1,b1,b1,b1,b1,b1,b1,b1,b1,b1,b1]]
def kF:List (List Bool) := [[b0,b0,b0,b0,b0,b0,b0,b0,b0],[b0,b0,b0,b0,b0,b1,b0,b0,b0],[b1,b0,b0,b0,b0,b1,b0,b0,b0],[b0,b1,b0,b0,b0,b1,b0,b0,b0],[b1,b1,b0,b0,b0,b1,b0,b0,b0],[b1,b0,b0,b0,b0,b1,b1,b0,b0],[b0,b1,b1,b0,b0,b1,b0,b0,b0],[b1,b1,b1,b0,b0,b1,b0,b0,b0],[b1,b1,b0,b0,b0,b1,b1,b0,b0],[b0,b1,b1,b1,b0,b1,b0,b0,b0],[b1,b1,b1,b1,b0,b1,b0,b0,b0],[b1,b1,b1,b0,b0,b1,b1,b0,b0],[b0,b1,b1,b1,b1,b1,b0,b0,b0],[b1,b1,b1,b1,b1,b1,b0,b0,b0],[b1,b1,b1,b1,b0,b1,b1,b0,b0],[b1,b1,b1,b1,b1,b1,b1,b0,b0],[b1,b1,b1,b1,b1,b1,b1,b1,b0],[b1,b1,b1,b1,b1,b1,b1,b1,b1]]
def yY (q:MStep→Bool):List MStep→Int→Int
 |[],_ => -1
 |a::r,k=>if q a=true then k else yY q r (k+1)
theorem zLI {q:MStep→Bool} {l:List MStep} {k:Nat} {a:MStep} (h:l[k]?=some a):yY q (l.drop k) k=if q a=true then (k:Int) else yY q (l.drop (k+1)) ((k+1:Nat):Int):=by
 rw [List.drop_eq_getElem_cons (bC h),(List.getElem?_eq_some_iff.1 h).2]
 rfl
def oO (n:Str) (s:MStep):Bool:=decide (s.kind=2) && s.name == n
theorem zFZ (n:Str):∀ (l:List MStep) (k:Nat),(eE n l=none∧yY (oO n) l k = -1)∨∃ (j:Nat) (g:MStep),yY (oO n) l k=((k+j:Nat):Int)∧l[j]?=some g∧eE n l=some g
 |[],_=>.inl ⟨rfl,rfl⟩
 |s::l,k=>by
  unfold eE yY
  by_cases h:s.kind=2∧s.name=n
  ·have hq:oO n s=true:=by unfold oO;simp [h.1,h.2]
   rw [if_pos h,if_pos hq]
   exact .inr ⟨0,s,rfl,rfl,rfl⟩
  ·have hq:¬ oO n s=true:=by
    unfold oO
    intro h2
    simp only [Bool.and_eq_true,decide_eq_true_eq,beq_iff_eq] at h2
    exact h h2
   rw [if_neg h,if_neg hq]
   have:=zFZ n l (k+1)
   rcases this with ⟨h1,h2⟩|⟨j,g,h1,h2,h3⟩
   ·exact .inl ⟨h1,by exact_mod_cast h2⟩
   ·refine .inr ⟨j+1,g,?_,by simpa using h2,h3⟩
    have e:((k+1:Nat):Int)=(k:Int)+1:=by omega
    rw [e] at h1
    rw [h1]
    omega
theorem yW (l:List MStep) (f:Nat) (cp:List D) (q:MStep→Bool) (hq:∀ a ∈ l,Sem Tryz.prog f [.agg a.row,.ptr cp] (.bool (q a))):Sem Tryz.prog 55 [.sl 0 12 (l.map MStep.row),.fn f [.ptr cp]] (.int .i64 (yY q l 0)):=by
 refine gU 0 rfl rfl fun hl => ?_
 rw [List.length_map] at hl
 refine si [1000013,1000035,1000037,1000069,1000070,1000116,1000157] func55 ?_
 repeat'((conv=>whnf);first|(try(first|apply eN|apply eI|apply eC);conv=>whnf);apply sD;(focus first|exact bV)|apply rR|apply rE|apply rH| (apply cD<;>intro hb<;>(try simp only[aA]at hb)<;>try exact aM))
 all_goals try exact false
 refine aL (M:=fun t=>gF t [1000013,1000035,1000037,1000069,1000070,1000116,1000157]) hT hM (fun k:Nat => [(8,.int .i64 k)]) (fun k=>k≤l.length∧yY q (l.drop k) k=yY q l 0) (fun k=>l.length - k) (0) ?_ ?_ ?_
 ·exact aV
 ·exact ⟨Nat.zero_le _,rfl⟩
 ·rintro k ⟨hk,hi⟩
  rcases hx:l[k]? with _|a
  ·have hk':k=l.length:=by have:=List.getElem?_eq_none_iff.1 hx;omega
   subst hk'
   rw [List.drop_length] at hi
   repeat'((conv=>whnf);first|(try(first|apply eN|apply eI|apply eC);conv=>whnf);apply sD;(focus first|exact bV)|apply rR|apply rE|apply rH| (apply cD<;>intro hb<;>(try simp only[aA]at hb)<;>try exact aM))
   all_goals try exact false
   repeat' ((conv=>whnf);first|exact aI|with_reducible first|apply And.intro|apply oR|apply oN|apply dC)
   all_goals (conv=>whnf)
   exact aJ hi
  ·have hlt:=(bC hx)
   have hcc:=hq a (aK hx)
   rw [zLI hx] at hi
   generalize q a=b at hcc hi
   obtain ⟨k1,t1,fs1,n1,o1,⟨ck,cks,cp1,cvs,clo,chi⟩,ss1⟩:=a
   rw [MStep.row_mk] at hcc
   repeat'((conv=>whnf);first|(try(first|apply eN|apply eI|apply eC);conv=>whnf);apply sD;(focus first|(exact bN hx rfl)|exact gx hcc|exact bV)|apply rR|apply rE|apply rH| (apply cD<;>intro hb<;>(try simp only[aA]at hb)<;>try exact aM))
   all_goals try exact false
   ·repeat' ((conv=>whnf);first|exact aI|with_reducible first|apply And.intro|apply oR|apply oN|apply dC)
    all_goals (conv=>whnf)
    exact aJ (by rw [← hi,if_pos hb])
   ·refine ⟨k+1,⟨by omega,by rw [← hi,if_neg (by simp [hb])]⟩,by omega,?_⟩
    exact aV
theorem zGy (x s:MStep):Sem Tryz.prog 71 [.agg x.row,.ptr s.row] (.bool (oO s.over x)):=by
 obtain ⟨k,t,fs,n,o,⟨ck,cks,cp,cvs,clo,chi⟩,ss⟩:=x
 obtain ⟨k2,t2,fs2,n2,o2,⟨ck2,cks2,cp2,cvs2,clo2,chi2⟩,ss2⟩:=s
 have he:oO (MStep.mk k2 t2 fs2 n2 o2 (.mk ck2 cks2 cp2 cvs2 clo2 chi2) ss2).over (MStep.mk k t fs n o (.mk ck cks cp cvs clo chi) ss)=(decide (k=2) && n == o2):=rfl
 rw [he,MStep.row_mk,MStep.row_mk]
 refine si [1000013,1000035,1000037,1000069,1000070,1000116,1000157] func71 ?_
 repeat'((conv=>whnf);first|(try(first|apply eN|apply eI);conv=>whnf);apply sD;(focus(try intro hc;have hc0:=hc;(try simp only[aA]at hc);try refine aE ?_);first|exact aC)|apply rR|apply rE|apply rH| (apply cD<;>intro hb<;>(try simp only[aA]at hb)<;>try exact aM))
 all_goals try exact false
 exact aT
def zGj (tbs:List Tb) (s:MStep):Prop:=∀ (tbs2:List Tb) (inn:List MStep) (within:Bool),(∀ x ∈ inn,x.Good tbs2)→
  SemO Tryz.prog 37 (.obj [.sl 0 2 (tbs.map Tb.row)]) [.agg s.row,.sl 0 12 (inn.map MStep.row),.bool within] (.tup [.agg (dB tbs s inn within).1.row,.bool (dB tbs s inn within).2.1,.int .i64 (dB tbs s inn within).2.2]) (some (.obj [.sl 0 2 (tbs.map Tb.row)]))
def zGm (tbs:List Tb) (l:List MStep):Prop:=∀ (tbs2:List Tb) (inn:List MStep) (within:Bool),(∀ x ∈ inn,x.Good tbs2)→
  SemO Tryz.prog 13 (.obj [.sl 0 2 (tbs.map Tb.row)]) [.sl 0 12 (l.map MStep.row),.sl 0 12 (inn.map MStep.row),.bool within] (.tup [.sl 0 12 ((aY tbs l inn within []).1.map MStep.row),.int .i64 (aY tbs l inn within []).2]) (some (.obj [.sl 0 2 (tbs.map Tb.row)]))
theorem zCs (tbs:List Tb) (s:MStep) (h:zGj tbs s) (tbs2:List Tb) (inn:List MStep) (within:Bool) (hi:∀ x ∈ inn,x.Good tbs2):SemO Tryz.prog 37 (.obj [.sl 0 2 (tbs.map Tb.row)]) [.agg s.row,.sl 0 12 (inn.map MStep.row),.bool within] (.tup [.agg (dB tbs s inn within).1.row,.bool (dB tbs s inn within).2.1,.int .i64 (dB tbs s inn within).2.2]) (some (.obj [.sl 0 2 (tbs.map Tb.row)])):=h tbs2 inn within hi
theorem kD (tbs:List Tb) (l:List MStep) (h:zGm tbs l) (tbs2:List Tb) (inn:List MStep) (within:Bool) (hi:∀ x ∈ inn,x.Good tbs2):SemO Tryz.prog 13 (.obj [.sl 0 2 (tbs.map Tb.row)]) [.sl 0 12 (l.map MStep.row),.sl 0 12 (inn.map MStep.row),.bool within] (.tup [.sl 0 12 ((aY tbs l inn within []).1.map MStep.row),.int .i64 (aY tbs l inn within []).2]) (some (.obj [.sl 0 2 (tbs.map Tb.row)])):=h tbs2 inn within hi
theorem zC9 (tbs:List Tb) (l:List MStep) (hl3:l.length≤300) (h:∀ s ∈ l,zGj tbs s):zGm tbs l:=by
 intro tbs2 inn within hi
 generalize hr:aY tbs l inn within []=r
 have hll:(l.map MStep.row).length=l.length:=List.length_map _
 refine sO [0,12,2000012,13,2000013,1000013,1000035,1000037,1000069,1000070,1000116,1000157] func13 ?_
 repeat'((conv=>whnf);first|(try(first|apply eN|apply eI|apply eC);conv=>whnf);apply sD;(focus first|exact bV)|((with_reducible apply CallO.go);(conv=>whnf);apply sD;(focus first|(apply aU (zCs _ _ _ _ _ _ _);all_goals exact eX)))|apply rR|apply rE|apply rH| (apply cD<;>intro hb<;>(try simp only[aA]at hb)<;>try exact aM))
 all_goals try exact false
 refine aL (M:=fun t=>gF t [0,12,2000012,13,2000013,1000013,1000035,1000037,1000069,1000070,1000116,1000157]) hT hM (fun x:Nat × List MStep => [(18,.int .i64 x.1),(10,.sl 2 12 (x.2.map MStep.row)),(0,.obj [.sl 0 2 (tbs.map Tb.row)])]) (fun x=>x.1≤l.length∧aY tbs (l.drop x.1) inn within x.2=r∧x.2.length≤x.1) (fun x=>l.length - x.1) ((0,[])) ?_ ?_ ?_
 ·exact aV
 ·exact ⟨Nat.zero_le _,hr,Nat.le_refl _⟩
 ·rintro ⟨i,acc⟩ ⟨hi2,hv,hn⟩
  dsimp only at hi2 hv hn ⊢
  have hla:(acc.map MStep.row).length=acc.length:=List.length_map _
  cases hx:l[i]? with
  |none=>
   have hm:=List.getElem?_eq_none_iff.1 hx
   rw [List.drop_of_length_le hm,mP] at hv
   subst hv
   repeat'((conv=>whnf);first|(try(first|apply eN|apply eI|apply eC);conv=>whnf);apply sD;(focus first|exact bV)|((with_reducible apply CallO.go);(conv=>whnf);apply sD;(focus first|(apply aU (zCs _ _ _ _ _ _ _);all_goals exact eX)))|apply rR|apply rE|apply rH| (apply cD<;>intro hb<;>(try simp only[aA]at hb)<;>try exact aM))
   all_goals try exact false
   exact aT
  |some s=>
   have hlt:=(bC hx)
   have ih':=h s (aK hx) tbs2 inn within hi
   rw [pR hx] at hv
   generalize dB tbs s inn within=y at hv ih'
   obtain ⟨y1,y2,y3⟩:=y
   obtain ⟨k,t,fs,n,o,⟨ck,cks,cp,cvs,clo,chi⟩,ss⟩:=s
   obtain ⟨yk,yt,yfs,yn,yo,⟨yck,ycks,ycp,ycvs,yclo,ychi⟩,yss⟩:=y1
   dsimp only at hv ih'
   rw [MStep.row_mk,MStep.row_mk] at ih'
   clear hi h
   repeat'((conv=>whnf);first|(try(first|apply eN|apply eI|apply eC);conv=>whnf);apply sD;(focus first|(exact bN hx rfl)|exact bV)|((with_reducible apply CallO.go);(conv=>whnf);apply sD;(focus first|(apply aU (ih');all_goals exact eX)))|apply rR|apply rE|apply rH| (apply cD<;>intro hb<;>(try simp only[aA]at hb)<;>try exact aM))
   all_goals try exact false
   ·rw [if_pos hb] at hv
    subst hv
    exact aT
   ·have h3:¬ y3 ≠ 0:=by omega
    rw [if_neg h3,if_pos hb] at hv
    refine ⟨(i+1,acc ++ [.mk yk yt yfs yn yo (.mk yck ycks ycp ycvs yclo ychi) yss]),⟨by dsimp only;omega,hv,by simp;omega⟩,by dsimp only;omega,?_⟩
    (conv=>whnf)
    refine ⟨?_,by rfl⟩
    repeat' ((conv=>whnf);first|exact bE|(exact zFc (by dsimp only;rw [List.map_append,List.map_cons,List.map_nil,MStep.row_mk]))|exact aO|with_reducible apply dC)
   ·have h3:¬ y3 ≠ 0:=by omega
    rw [if_neg h3,if_neg (by rw [hb];decide)] at hv
    refine ⟨(i+1,acc),⟨by dsimp only;omega,hv,by dsimp only;omega⟩,by dsimp only;omega,?_⟩
    exact aV
theorem zBK (n:Nat):decide (0 < (n:Int)) = !(n == 0):=by
 by_cases h:n=0
 ·subst h;rfl
 ·rw [decide_eq_true (by omega)]
  simp [h]
theorem zKn {tbs:List Tb} {inn:List MStep} {within:Bool} {l acc:List Fld} {i:Nat} {f:Fld} (h:l[i]?=some f):eS tbs inn within (l.drop i) acc=if (iC tbs f.vl inn within).2.2 ≠ 0 then (acc,(iC tbs f.vl inn within).2.2) else eS tbs inn within (l.drop (i+1)) (if (iC tbs f.vl inn within).2.1=true then acc ++ [(iC tbs f.vl inn within).1.fld f.el f.pt] else acc):=by
 rw [List.drop_eq_getElem_cons (bC h),(List.getElem?_eq_some_iff.1 h).2,eS]
theorem zN{p:Prop}(h:p:=by first|(refine gx (yW ?_ ?_ ?_ ?_ ?_)<;>exact pre)):p:=h
theorem zH0 (tbs:List Tb) (ht:aW tbs=0) (k:Int) (t:Str) (fs:List Fld) (n o:Str) (c:Cond) (ss:List MStep) (hg:(MStep.mk k t fs n o c ss).Good tbs) (hs:zGm tbs ss):zGj tbs (.mk k t fs n o c ss):=by
 intro tbs2 inn within hi
 have hfl:∀ s ∈ inn,s.flds.length≤1000000:=fun s hs=>pY (hi s hs)
 have h0:=rY (cQ hg).1
 obtain ⟨ck,cks,cp,cvs,clo,chi⟩:=c
 rw [rX,MStep.row_mk]
 by_cases k3:k=3
 ·rw [if_pos k3,MStep.row_mk]
  clear hi hs h0 hg
  refine sO [0,8,11,4000011,13,2000013,14,2000014,17,4000017,5000015,5000021,5000024,1000013,1000035,1000037,1000069,1000070,1000116,1000157] func37 ?_
  repeat'((conv=>whnf);first|((with_reducible apply DrawI.at 66 kH);exact rfl;kernel_rfl)|((with_reducible apply DrawI.at 85 kG);exact rfl;kernel_rfl)|((with_reducible apply DrawI.at 106 kF);exact rfl;kernel_rfl)|with_reducible apply ExE.go|((with_reducible apply EqF.mk);exact rfl)|with_reducible apply AndI.mk|with_reducible exact trivial|(try(first|apply eN|apply eI|apply eC);conv=>whnf);apply sD;(focus first|exact zN|exact bV)|((with_reducible apply CallO.go);(conv=>whnf);apply sD;(focus first|(apply aU (oM _ _ _ _ _ _ _);all_goals exact eX)|(apply aU (kD _ _ _ _ _ _ _);all_goals exact eX)))|(first|apply dG|apply kB);kernel_rfl|apply rR|apply rE|apply rH| (apply cD<;>intro hb<;>(try simp only[aA]at hb)<;>try exact aM))
  all_goals try exact false
  exact aT
 ·rw [if_neg k3]
  by_cases k1:k=1
  ·rw [if_pos k1]
   obtain ⟨_,_,_,_,_,hfn,hfv⟩:=h0.seg k1
   have hlf:(fs.map Fld.row).length=fs.length:=List.length_map _
   clear hi hs h0 hg
   generalize hrf:eS tbs inn within fs []=rf
   obtain ⟨rfs,re⟩:=rf
   dsimp only
   have hq:∀ q:MStep × Bool × Int,q=(if re ≠ 0 then (MStep.mk k t fs n o (.mk ck cks cp cvs clo chi) ss,false,re) else (MStep.mk k t rfs [] [] (.mk 0 [] [] [] 0 0) [],!(rfs.length == 0),0))→SemO Tryz.prog 37 (.obj [.sl 0 2 (tbs.map Tb.row)]) [.agg [.int .i64 k,.str t,.sl 0 6 (fs.map Fld.row),.str n,.str o,.int .i64 ck,.sl 0 6 (cks.map Cond.row),.str cp,.sl 0 1 (cvs.map fun s => [.str s]),.int .i64 clo,.int .i64 chi,.sl 0 12 (ss.map MStep.row)],.sl 0 12 (inn.map MStep.row),.bool within] (.tup [.agg q.1.row,.bool q.2.1,.int .i64 q.2.2]) (some (.obj [.sl 0 2 (tbs.map Tb.row)])):=by
    intro q hq
    obtain ⟨⟨qk,qt,qfs,qn,qo,⟨qck,qcks,qcp,qcvs,qclo,qchi⟩,qss⟩,qb,qe⟩:=q
    dsimp only
    rw [MStep.row_mk]
    refine sO [0,8,11,4000011,13,2000013,14,2000014,17,4000017,5000015,5000021,5000024,1000013,1000035,1000037,1000069,1000070,1000116,1000157] func37 ?_
    repeat'((conv=>whnf);first|((with_reducible apply DrawI.at 66 kH);exact rfl;kernel_rfl)|((with_reducible apply DrawI.at 85 kG);exact rfl;kernel_rfl)|((with_reducible apply DrawI.at 106 kF);exact rfl;kernel_rfl)|with_reducible apply ExE.go|((with_reducible apply EqF.mk);exact rfl)|with_reducible apply AndI.mk|with_reducible exact trivial|(try(first|apply eN|apply eI|apply eC);conv=>whnf);apply sD;(focus first|exact zN|exact bV)|((with_reducible apply CallO.go);(conv=>whnf);apply sD;(focus first|(apply aU (oM _ _ _ _ _ _ _);all_goals exact eX)|(apply aU (kD _ _ _ _ _ _ _);all_goals exact eX)))|(first|apply dG|apply kB);kernel_rfl|apply rR|apply rE|apply rH| (apply cD<;>intro hb<;>(try simp only[aA]at hb)<;>try exact aM))
    all_goals try exact false
    refine zKd [(11,2,6),(11,6,6),(11,8,1),(11,11,12)] ?_
    conv=>whnf
    refine aL (M:=fun t=>gF t [0,8,11,4000011,13,2000013,14,2000014,17,4000017,5000015,5000021,5000024,1000013,1000035,1000037,1000069,1000070,1000116,1000157]) hT hM (fun y:Nat × List Fld => [(35,.int .i64 y.1),(11,.obj [.int .i64 k,.str t,.sl 2 6 (y.2.map Fld.row),.str [],.str [],.int .i64 0,.sl 2 6 [],.str [],.sl 2 1 [],.int .i64 0,.int .i64 0,.sl 2 12 []]),(0,.obj [.sl 0 2 (tbs.map Tb.row)])]) (fun y=>y.1≤fs.length∧eS tbs inn within (fs.drop y.1) y.2=(rfs,re)∧y.2.length≤y.1) (fun y=>fs.length - y.1) ((0,[])) ?_ ?_ ?_
    ·exact aV
    ·exact ⟨Nat.zero_le _,hrf,Nat.le_refl _⟩
    ·rintro y ⟨hj,hw,hm⟩
     have hly:(y.2.map Fld.row).length=y.2.length:=List.length_map _
     cases hy:fs[y.1]? with
     |none=>
      have hm9:=List.getElem?_eq_none_iff.1 hy
      rw [List.drop_of_length_le hm9,eS] at hw
      cases hw
      have h00:¬ (0:Int) ≠ 0:=by decide
      rw [if_neg h00] at hq
      cases hq
      repeat'((conv=>whnf);first|((with_reducible apply DrawI.at 66 kH);exact rfl;kernel_rfl)|((with_reducible apply DrawI.at 85 kG);exact rfl;kernel_rfl)|((with_reducible apply DrawI.at 106 kF);exact rfl;kernel_rfl)|with_reducible apply ExE.go|((with_reducible apply EqF.mk);exact rfl)|with_reducible apply AndI.mk|with_reducible exact trivial|(try(first|apply eN|apply eI|apply eC);conv=>whnf);apply sD;(focus first|exact zN|exact bV)|((with_reducible apply CallO.go);(conv=>whnf);apply sD;(focus first|(apply aU (oM _ _ _ _ _ _ _);all_goals exact eX)|(apply aU (kD _ _ _ _ _ _ _);all_goals exact eX)))|(first|apply dG|apply kB);kernel_rfl|apply rR|apply rE|apply rH| (apply cD<;>intro hb<;>(try simp only[aA]at hb)<;>try exact aM))
      all_goals try exact false
      repeat' ((conv=>whnf);first|exact aI|with_reducible first|apply And.intro|apply oR|apply oN|apply dC)
      all_goals (conv=>whnf)
      ·exact .le (.refl _)
      ·exact aS (by rw [hly];exact zBK _)
     |some f=>
      have hlt2:=(bC hy)
      have hv:=oM tbs ht inn hfl within f (hfv f (aK hy)).1
      rw [zKn hy] at hw
      generalize iC tbs f.vl inn within=rv at hv hw
      obtain ⟨⟨vk,vt,vp,va⟩,is,e⟩:=rv
      unfold Fld.vl MVal.row at hv
      dsimp only at hv hw
      repeat'((conv=>whnf);first|((with_reducible apply DrawI.at 66 kH);exact rfl;kernel_rfl)|((with_reducible apply DrawI.at 85 kG);exact rfl;kernel_rfl)|((with_reducible apply DrawI.at 106 kF);exact rfl;kernel_rfl)|with_reducible apply ExE.go|((with_reducible apply EqF.mk);exact rfl)|with_reducible apply AndI.mk|with_reducible exact trivial|(try(first|apply eN|apply eI|apply eC);conv=>whnf);apply sD;(focus first|exact zN|(exact jR hy rfl)|exact bV)|((with_reducible apply CallO.go);(conv=>whnf);apply sD;(focus first|(apply aU (hv);all_goals exact eX)))|(first|apply dG|apply kB);kernel_rfl|apply rR|apply rE|apply rH| (apply cD<;>intro hb<;>(try simp only[aA]at hb)<;>try exact aM))
      all_goals try exact false
      ·rw [if_pos hb] at hw
       cases hw
       rw [if_pos hb] at hq
       cases hq
       exact aT
      ·have he0:¬ e ≠ 0:=by omega
       rw [if_neg he0,if_pos hb] at hw
       refine ⟨(y.1+1,y.2 ++ [MVal.fld f.el f.pt ⟨vk,vt,vp,va⟩]),⟨by dsimp only;omega,hw,by simp;omega⟩,by dsimp only;omega,?_⟩
       (conv=>whnf)
       refine ⟨?_,by rfl⟩
       repeat' ((conv=>whnf);first|exact bE|((rw [List.map_append];exact .refl _))|(exact cT (by dsimp only;omega))|exact aO|with_reducible apply dC)
      ·have he0:¬ e ≠ 0:=by omega
       rw [if_neg he0,if_neg (by rw [hb];decide)] at hw
       refine ⟨(y.1+1,y.2),⟨by dsimp only;omega,hw,by dsimp only;omega⟩,by dsimp only;omega,?_⟩
       (conv=>whnf)
       refine ⟨?_,by rfl⟩
       repeat' ((conv=>whnf);first|exact bE|(exact cT (by dsimp only;omega))|exact aO|with_reducible apply dC)
   exact hq _ rfl
  ·rw [if_neg k1]
   have k2:k=2:=by have:=h0.k1;have:=h0.k3;omega
   by_cases ho:o = []
   ·rw [if_pos ho]
    have hk2:=hs tbs2 inn within hi
    clear hs h0 hg hi
    generalize aY tbs ss inn within []=q at hk2
    obtain ⟨qs,qe⟩:=q
    dsimp only at hk2 ⊢
    rw [zeroM,MStep.row_mk]
    have hqs:(qs.map MStep.row).length=qs.length:=List.length_map _
    refine sO [0,8,11,4000011,13,2000013,14,2000014,17,4000017,5000015,5000021,5000024,1000013,1000035,1000037,1000069,1000070,1000116,1000157] func37 ?_
    repeat'((conv=>whnf);first|((with_reducible apply DrawI.at 66 kH);exact rfl;kernel_rfl)|((with_reducible apply DrawI.at 85 kG);exact rfl;kernel_rfl)|((with_reducible apply DrawI.at 106 kF);exact rfl;kernel_rfl)|with_reducible apply ExE.go|((with_reducible apply EqF.mk);exact rfl)|with_reducible apply AndI.mk|with_reducible exact trivial|(try(first|apply eN|apply eI|apply eC);conv=>whnf);apply sD;(focus first|exact zN|exact bV)|((with_reducible apply CallO.go);(conv=>whnf);apply sD;(focus first|(apply aU (hk2);all_goals exact eX)))|(first|apply dG|apply kB);kernel_rfl|apply rR|apply rE|apply rH| (apply cD<;>intro hb<;>(try simp only[aA]at hb)<;>try exact aM))
    all_goals try exact false
    repeat' ((conv=>whnf);first|exact aI|with_reducible first|apply And.intro|apply oR|apply oN|apply dC)
    all_goals (conv=>whnf)
    ·(first|refine aG ?_|refine aB ?_|skip)
     repeat' (first|exact bE|exact aO|with_reducible apply dC|with_reducible apply aB)
    ·exact aS (by rw [hqs];exact zBK _)
   ·rw [if_neg ho]
    have hI:=fun f hf=>yW inn f (MStep.mk k t fs n o (.mk ck cks cp cvs clo chi) ss).row (oO o) hf
    have hI2:=hI 71 fun a _=>zGy a (MStep.mk k t fs n o (.mk ck cks cp cvs clo chi) ss)
    rw [MStep.row_mk] at hI2
    clear hI
    rcases zFZ o inn 0 with ⟨h1,h2⟩|⟨j,g,h1,h2,h3⟩
    ·rw [h1]
     dsimp only
     rw [MStep.row_mk]
     have h2:yY (oO o) inn 0 = -1:=h2
     rw [h2] at hI2
     clear hs h0 hg hi
     refine sO [0,8,11,4000011,13,2000013,14,2000014,17,4000017,5000015,5000021,5000024,1000013,1000035,1000037,1000069,1000070,1000116,1000157] func37 ?_
     repeat'((conv=>whnf);first|((with_reducible apply DrawI.at 66 kH);exact rfl;kernel_rfl)|((with_reducible apply DrawI.at 85 kG);exact rfl;kernel_rfl)|((with_reducible apply DrawI.at 106 kF);exact rfl;kernel_rfl)|with_reducible apply ExE.go|((with_reducible apply EqF.mk);exact rfl)|with_reducible apply AndI.mk|with_reducible exact trivial|(try(first|apply eN|apply eI|apply eC);conv=>whnf);apply sD;(focus first|exact gx hI2|exact zN|exact bV)|((with_reducible apply CallO.go);(conv=>whnf);apply sD;(focus first|(apply aU (oM _ _ _ _ _ _ _);all_goals exact eX)|(apply aU (kD _ _ _ _ _ _ _);all_goals exact eX)))|(first|apply dG|apply kB);kernel_rfl|apply rR|apply rE|apply rH| (apply cD<;>intro hb<;>(try simp only[aA]at hb)<;>try exact aM))
     all_goals try exact false
     exact aT
    ·rw [h3]
     dsimp only
     obtain ⟨gm,_,_⟩:=oS (tbs:=tbs2) h3
     have gkids:∀ x ∈ g.kids,x.Good tbs2:=by
      have:=hi g gm
      obtain ⟨k',t',fs',n',o',c',ss'⟩:=g
      exact (cQ this).2
     have hk2:=hs tbs2 g.kids true gkids
     have h1:yY (oO o) inn 0=((0+j:Nat):Int):=h1
     rw [h1,Nat.zero_add] at hI2
     clear hs h0 hg hi gkids gm h1 h3
     generalize aY tbs ss g.kids true []=q at hk2
     obtain ⟨qs,qe⟩:=q
     obtain ⟨gk,gt,gf,gn,go,⟨gck,gcks,gcp,gcvs,gclo,gchi⟩,gss⟩:=g
     have hgk:(MStep.mk gk gt gf gn go (.mk gck gcks gcp gcvs gclo gchi) gss).kids=gss∧(MStep.mk gk gt gf gn go (.mk gck gcks gcp gcvs gclo gchi) gss).over=go:=⟨rfl,rfl⟩
     rw [hgk.1] at hk2
     rw [hgk.2]
     dsimp only at hk2 ⊢
     rw [zeroM,MStep.row_mk]
     have hqs:(qs.map MStep.row).length=qs.length:=List.length_map _
     have hjl:=(bC h2)
     refine sO [0,8,11,4000011,13,2000013,14,2000014,17,4000017,5000015,5000021,5000024,1000013,1000035,1000037,1000069,1000070,1000116,1000157] func37 ?_
     repeat'((conv=>whnf);first|((with_reducible apply DrawI.at 66 kH);exact rfl;kernel_rfl)|((with_reducible apply DrawI.at 85 kG);exact rfl;kernel_rfl)|((with_reducible apply DrawI.at 106 kF);exact rfl;kernel_rfl)|with_reducible apply ExE.go|((with_reducible apply EqF.mk);exact rfl)|with_reducible apply AndI.mk|with_reducible exact trivial|(try(first|apply eN|apply eI|apply eC);conv=>whnf);apply sD;(focus first|exact gx hI2|exact zN|(exact bN h2 rfl)|exact bV)|((with_reducible apply CallO.go);(conv=>whnf);apply sD;(focus first|(apply aU (hk2);all_goals exact eX)))|(first|apply dG|apply kB);kernel_rfl|apply rR|apply rE|apply rH| (apply cD<;>intro hb<;>(try simp only[aA]at hb)<;>try exact aM))
     all_goals try exact false
     repeat' ((conv=>whnf);first|exact aI|with_reducible first|apply And.intro|apply oR|apply oN|apply dC)
     all_goals (conv=>whnf)
     ·(first|refine aG ?_|refine aB ?_|skip)
      repeat' (first|exact bE|exact aO|with_reducible apply dC|with_reducible apply aB)
     ·exact aS (by rw [hqs];exact zBK _)
theorem zHe (tbs:List Tb) (ht:aW tbs=0) (l:List MStep) (hl:l.length≤300) (hg:∀ s ∈ l,s.Good tbs∧s.Slim):zGm tbs l:=by
 have key:∀ s:MStep,s.Good tbs∧s.Slim→zGj tbs s:=by
  intro s
  induction s using MStep.ind with
  |h k t fs n o c ss ih=>
   rintro ⟨h1,h2⟩
   have h3:=(cQ h1).2
   have h4:=tU h2
   exact zH0 tbs ht k t fs n o c ss h1 (zC9 tbs ss h4.1 fun s hs=>ih s hs ⟨h3 s hs,h4.2 s hs⟩)
 exact zC9 tbs l hl fun s hs=>key s (hg s hs)
end Go.Proofs.YtnjgoldinaffgaaGreatDoor
