/- Trees are right: the reference (walks). Conditions are right: the reference's check of all parts (walks). Atoms, Can, follows: the reference's (walks), and what tables say (plain). Rules: what is wrong with them, and which are needless (plain). Rules without error: the program's and the reference's (walks). Rules that are not needless say all that all rules say (plain). -/
import Derived.Test.YtnlbekongmkmjaaGreatDoorZ26
import Derived.Test.YtnlbekongmkmjaaGreatDoorZ28
namespace Go.Proofs.YtnlbekongmkmjaaGreatDoor
set_option linter.unusedSimpArgs false
set_option linter.unusedVariables false
open Go.RowKit
set_option maxRecDepth 100000
set_option maxHeartbeats 4000000
theorem checkText2_sem (s:Str) (hs:s.length≤9223372036854775807):Sem Tryz.prog 184 [.str s] (.int .i64 (textErr s)):=by
 have hr:textErr s=if 1000 < s.length then 2 else if (decide (s.length≤1000) && s.all fun c=>decide ((32:Int)≤c.toNat) && decide ((c.toNat:Int)≤126))=true then 0 else 3:=rfl
 generalize textErr s=r at hr ⊢
 refine si [1000044,1000045,1000084] Tryz.func184 ?_
 repeat'((conv=>whnf);first|(try(first|apply eN|apply eC);conv=>whnf);apply sD;(focus(try intro hc;have hc0:=hc;(try simp only[SPLT]at hc);try refine and0 ?_);first|exact sideG)|apply rR|apply rE|apply rH|(apply cD<;>intro hb<;>(try simp only[SPLT]at hb)<;>try exact noB))
 all_goals try exact false
 ·rw [if_pos (by omega)] at hr
  subst hr
  exact finR
 ·rw [if_neg (by omega),decide_eq_true (by omega),Bool.true_and] at hr
  refine loop_go (M:=fun t=>mem t [1000044,1000045,1000084]) hT hM (fun k:Nat => [(3,.int .i64 k)]) (fun k=>k≤s.length∧((s.take k).all fun c=>decide ((32:Int)≤c.toNat) && decide ((c.toNat:Int)≤126))=true) (fun k=>s.length - k) (0) ?_ ?_ ?_
  ·exact finF
  ·exact ⟨by omega,rfl⟩
  ·rintro k ⟨hk,hall⟩
   cases hx:s[k]? with
   |none=>
    have hn:=List.getElem?_eq_none_iff.1 hx
    rw [List.take_of_length_le hn] at hall
    rw [if_pos hall] at hr
    subst hr
    repeat'((conv=>whnf);first|(try(first|apply eN|apply eC);conv=>whnf);apply sD;(focus(try intro hc;have hc0:=hc;(try simp only[SPLT]at hc);try refine and0 ?_);first|exact sideG)|apply rR|apply rE|apply rH|(apply cD<;>intro hb<;>(try simp only[SPLT]at hb)<;>try exact noB))
    all_goals try exact false
    exact finR
   |some x=>
    have hlt:=(gLt hx)
    repeat'((conv=>whnf);first|(try(first|apply eN|apply eC);conv=>whnf);apply sD;(focus(try intro hc;have hc0:=hc;(try simp only[SPLT]at hc);try refine and0 ?_);first|exact sideG)|apply rR|apply rE|apply rH|(apply cD<;>intro hb<;>(try simp only[SPLT]at hb)<;>try exact noB))
    all_goals try exact false
    ·simp [List.getD_eq_getElem?_getD,hx] at hb
     have hf:(s.all fun c=>decide ((32:Int)≤c.toNat) && decide ((c.toNat:Int)≤126))=false:=by
      rw [List.all_eq_false]
      exact ⟨x,gMem hx,by simp;omega⟩
     rw [hf,if_neg (by decide)] at hr
     subst hr
     exact finR
    ·refine ⟨k+1,⟨by omega,?_⟩,by omega,?_⟩
     ·simp [List.getD_eq_getElem?_getD,hx] at hb
      rw [take_at hx,List.all_append,hall]
      simp
      omega
     ·exact finF
theorem checkElement2_sem (e:El) (ht:∀ p ∈ e,∀ s ∈ p,s.length≤9223372036854775807):Sem Tryz.prog 150 [.agg [.sl 0 1 (e.map repR)]] (.int .i64 (elErr e)):=by
 refine sem_lenA 0 0 rfl rfl rfl fun hl => ?_
 rw [List.length_map] at hl
 have hll:(e.map repR).length=e.length:=List.length_map _
 have hr:elErr e=if e.length=0 then 9 else if 20 < e.length then 2 else repsErr e:=rfl
 generalize elErr e=r at hr ⊢
 refine si [1000044,1000045,1000084] Tryz.func150 ?_
 repeat'((conv=>whnf);first|(try(first|apply eN|apply eI|apply eC);conv=>whnf);apply sD;(focus first|(refine gx (checkText2_sem ?_ ?_)<;>exact pre)|exact side)|apply rR|apply rE|apply rH|(apply cD<;>intro hb<;>(try simp only[SPLT]at hb)<;>try exact noB))
 all_goals try exact false
 ·rw [if_pos (by simpa using hb)] at hr
  subst hr
  exact finR
 ·rw [if_neg (by omega),if_pos (by omega)] at hr
  subst hr
  exact finR
 ·rw [if_neg (by omega),if_neg (by omega)] at hr
  refine loop_go (M:=fun t=>mem t [1000044,1000045,1000084]) hT hM (fun i:Nat => [(3,.int .i64 i)]) (fun i=>i≤e.length∧repsErr (e.drop i)=r) (fun i=>e.length - i) (0) ?_ ?_ ?_
  ·exact finF
  ·exact ⟨Nat.zero_le _,hr.symm⟩
  ·rintro i ⟨hi,hv⟩
   cases hx:e[i]? with
   |none=>
    have hm:=List.getElem?_eq_none_iff.1 hx
    rw [List.drop_of_length_le hm] at hv
    subst hv
    repeat'((conv=>whnf);first|(try(first|apply eN|apply eI|apply eC);conv=>whnf);apply sD;(focus first|(refine gx (checkText2_sem ?_ ?_)<;>exact pre)|exact side)|apply rR|apply rE|apply rH|(apply cD<;>intro hb<;>(try simp only[SPLT]at hb)<;>try exact noB))
    all_goals try exact false
    exact finR
   |some p=>
    have hlt:=(gLt hx)
    have htp:=ht p (gMem hx)
    rw [repsErr_at hx] at hv
    have hpl:(p.map partR).length=p.length:=List.length_map _
    repeat'((conv=>whnf);first|(try(first|apply eN|apply eI|apply eC);conv=>whnf);apply sD;(focus first|(exact idx_rep hx rfl)|(refine gx (checkText2_sem ?_ ?_)<;>exact pre)|exact side)|apply rR|apply rE|apply rH|(apply cD<;>intro hb<;>(try simp only[SPLT]at hb)<;>try exact noB))
    all_goals try exact false
    ·rw [if_pos (by simpa using hb)] at hv
     subst hv
     exact finR
    ·rw [if_neg (by omega),if_pos (by omega)] at hv
     subst hv
     exact finR
    ·rw [if_neg (by omega),if_neg (by omega)] at hv
     generalize hrest:repsErr (e.drop (i+1))=rest at hv
     refine loop_go (M:=fun t=>mem t [1000044,1000045,1000084]) hT hM (fun k:Nat => [(4,.int .i64 k)]) (fun k=>k≤p.length∧(if partsErr (p.drop k) ≠ 0 then partsErr (p.drop k) else rest)=r) (fun k=>p.length - k) (0) ?_ ?_ ?_
     ·exact finF
     ·exact ⟨Nat.zero_le _,by simpa using hv⟩
     ·rintro k ⟨hk,hw⟩
      cases hy:p[k]? with
      |none=>
       have hm:=List.getElem?_eq_none_iff.1 hy
       rw [List.drop_of_length_le hm,if_neg (by simp [partsErr])] at hw
       subst hw
       repeat'((conv=>whnf);first|(try(first|apply eN|apply eI|apply eC);conv=>whnf);apply sD;(focus first|(exact idx_rep hx rfl)|(refine gx (checkText2_sem ?_ ?_)<;>exact pre)|exact side)|apply rR|apply rE|apply rH|(apply cD<;>intro hb<;>(try simp only[SPLT]at hb)<;>try exact noB))
       all_goals try exact false
       refine ⟨i+1,⟨by omega,hrest⟩,by omega,?_⟩
       exact finF
      |some s=>
       have hlk:=(gLt hy)
       have hs:=checkText2_sem s (htp s (gMem hy))
       rw [partsErr_at hy] at hw
       generalize textErr s=te at hs hw
       repeat'((conv=>whnf);first|(try(first|apply eN|apply eI|apply eC);conv=>whnf);apply sD;(focus first|(exact idx_rep hx rfl)|(exact idx_str hy rfl)|exact gx hs|(refine gx (checkText2_sem ?_ ?_)<;>exact pre)|exact side)|apply rR|apply rE|apply rH|(apply cD<;>intro hb<;>(try simp only[SPLT]at hb)<;>try exact noB))
       all_goals try exact false
       ·rw [if_pos hb,if_pos hb] at hw
        subst hw
        exact finR
       ·subst hb
        simp only [ne_eq,not_true_eq_false,ite_false] at hw
        refine ⟨k+1,⟨by omega,hw⟩,by omega,?_⟩
        exact finF
theorem checkOne2_sem (t:Str) (els:List El) (htl:t.length≤9223372036854775807) (ht:∀ e ∈ els,∀ p ∈ e,∀ s ∈ p,s.length≤9223372036854775807):Sem Tryz.prog 101 [.agg [.str t,.sl 0 1 (els.map elR)]] (.int .i64 (segErr t els)):=by
 have h1:=isTag2_sem t htl
 have hll:(els.map elR).length=els.length:=List.length_map _
 have hr:segErr t els=if isTagB t=false then 5 else if 50 < els.length then 2 else segElErr els:=rfl
 generalize segErr t els=r at hr ⊢
 generalize isTagB t=tb at h1 hr
 refine si [1000044,1000045,1000084] Tryz.func101 ?_
 repeat'((conv=>whnf);first|(try(first|apply eN|apply eI|apply eC);conv=>whnf);apply sD;(focus first|exact gx h1|(refine gx (isTag2_sem ?_ ?_)<;>exact pre)|(refine gx (checkElement2_sem ?_ ?_)<;>exact pre)|exact side)|apply rR|apply rE|apply rH|(apply cD<;>intro hb<;>(try simp only[SPLT]at hb)<;>try exact noB))
 all_goals try exact false
 ·rw [if_pos (by simpa using hb)] at hr
  subst hr
  exact finR
 ·rw [if_neg (by simp_all),if_pos (by omega)] at hr
  subst hr
  exact finR
 ·rw [if_neg (by simp_all),if_neg (by omega)] at hr
  refine loop_go (M:=fun t=>mem t [1000044,1000045,1000084]) hT hM (fun i:Nat => [(3,.int .i64 i)]) (fun i=>i≤els.length∧segElErr (els.drop i)=r) (fun i=>els.length - i) (0) ?_ ?_ ?_
  ·exact finF
  ·exact ⟨Nat.zero_le _,hr.symm⟩
  ·rintro i ⟨hi,hv⟩
   cases hx:els[i]? with
   |none=>
    have hm:=List.getElem?_eq_none_iff.1 hx
    rw [List.drop_of_length_le hm] at hv
    subst hv
    repeat'((conv=>whnf);first|(try(first|apply eN|apply eI|apply eC);conv=>whnf);apply sD;(focus first|(refine gx (isTag2_sem ?_ ?_)<;>exact pre)|(refine gx (checkElement2_sem ?_ ?_)<;>exact pre)|exact side)|apply rR|apply rE|apply rH|(apply cD<;>intro hb<;>(try simp only[SPLT]at hb)<;>try exact noB))
    all_goals try exact false
    exact finR
   |some e=>
    have hlt:=(gLt hx)
    have h2:=checkElement2_sem e (ht e (gMem hx))
    rw [segElErr_at hx] at hv
    generalize elErr e=ee at h2 hv
    repeat'((conv=>whnf);first|(try(first|apply eN|apply eI|apply eC);conv=>whnf);apply sD;(focus first|(exact idx_el hx rfl)|exact gx h2|(refine gx (isTag2_sem ?_ ?_)<;>exact pre)|(refine gx (checkElement2_sem ?_ ?_)<;>exact pre)|exact side)|apply rR|apply rE|apply rH|(apply cD<;>intro hb<;>(try simp only[SPLT]at hb)<;>try exact noB))
    all_goals try exact false
    ·rw [if_pos hb] at hv
     subst hv
     exact finR
    ·rw [if_neg (by simpa using hb)] at hv
     refine ⟨i+1,⟨by omega,hv⟩,by omega,?_⟩
     exact finF
theorem tree3L_sem (l:List Br) (d n:Int) (hd0:0≤d) (hd:d≤1000) (hn0:0≤n) (hn:n≤2000) (hl:l.length≤9223372036854775807) (ht:∀ x ∈ l,x.Txt) (ih:d≤6→∀ x ∈ l,∀ m:Int,0≤m→m≤2000→Sem Tryz.prog 61 [.sl 0 4 (x.kids.map Br.row),.int .i64 (d+1),.int .i64 m] (.tup [.int .i64 (Br.chks (d+1) m x.kids).1,.int .i64 (Br.chks (d+1) m x.kids).2])):Sem Tryz.prog 61 [.sl 0 4 (l.map Br.row),.int .i64 d,.int .i64 n] (.tup [.int .i64 (Br.chks d n l).1,.int .i64 (Br.chks d n l).2]):=by
 have hll:(l.map Br.row).length=l.length:=List.length_map _
 generalize hr:Br.chks d n l=r
 refine si [9,2000009,1000044,1000045,1000084] Tryz.func61 ?_
 repeat'((conv=>whnf);first|(try(first|apply eN|apply eI|apply eC);conv=>whnf);apply sD;(focus(try intro hc;have hc0:=hc;(try simp only[SPLT]at hc);try refine and0 ?_);first|(refine gx (isName2_sem ?_ ?_)<;>exact pre)|(refine gx (checkOne2_sem ?_ ?_ ?_ ?_)<;>exact pre)|(refine gx (tree3L_sem ?_ ?_ ?_ ?_ ?_ ?_ ?_ ?_ ?_ ?_)<;>exact pre)|exact sideG)|apply rR|apply rE|apply rH|(apply cD<;>intro hb<;>(try simp only[SPLT]at hb)<;>try exact noB))
 all_goals try exact false
 refine loop_go (M:=fun t=>mem t [9,2000009,1000044,1000045,1000084]) hT hM (fun x:Nat × Int => [(8,.int .i64 x.1),(2,.int .i64 x.2)]) (fun x=>x.1≤l.length∧0≤x.2∧x.2≤2000∧Br.chks d x.2 (l.drop x.1)=r) (fun x=>l.length - x.1) ((0,n)) ?_ ?_ ?_
 ·exact finF
 ·exact ⟨Nat.zero_le _,hn0,hn,hr⟩
 ·rintro ⟨i,m⟩ ⟨hi,hm1,hm2,hv⟩
  dsimp only at hi hm1 hm2 hv ⊢
  cases hx:l[i]? with
  |none=>
   have hm:=List.getElem?_eq_none_iff.1 hx
   rw [List.drop_of_length_le hm,bchks_nil] at hv
   subst hv
   repeat'((conv=>whnf);first|(try(first|apply eN|apply eI|apply eC);conv=>whnf);apply sD;(focus(try intro hc;have hc0:=hc;(try simp only[SPLT]at hc);try refine and0 ?_);first|(refine gx (isName2_sem ?_ ?_)<;>exact pre)|(refine gx (checkOne2_sem ?_ ?_ ?_ ?_)<;>exact pre)|(refine gx (tree3L_sem ?_ ?_ ?_ ?_ ?_ ?_ ?_ ?_ ?_ ?_)<;>exact pre)|exact sideG)|apply rR|apply rE|apply rH|(apply cD<;>intro hb<;>(try simp only[SPLT]at hb)<;>try exact noB))
   all_goals try exact false
   exact finR
  |some x=>
   have hlt:=(gLt hx)
   have hmem:=gMem hx
   obtain ⟨hb1,hb2⟩:=bchk_bd x d m hm2
   have hT:=ht x hmem
   have ih':=fun (g:d≤6)=>ih g x hmem
   rw [bchks_at hx] at hv
   obtain ⟨nm,t,els,ks⟩:=x
   obtain ⟨t1,t2,t3,t4,t5⟩:=hT
   have h1:=isName2_sem nm t1
   have h3:=checkOne2_sem t els t2 t3
   have hkl:(ks.map Br.row).length=ks.length:=List.length_map _
   have hel:(els.map elR).length=els.length:=List.length_map _
   rw [bchk_mk] at hv hb1 hb2
   simp only [Br.kids] at ih'
   by_cases hnm:nm = []
   ·subst hnm
    have hp:pathMany [] m=m+1:=if_pos rfl
    rw [hp] at hv hb1 hb2
    have h4:=fun g1 g2=>ih' g1 (m+1) (by omega) g2
    have hq:ks.length=0→Br.chks (d+1) (m+1) ks=(m+1,0):=fun g=>by
     obtain rfl:=List.length_eq_zero_iff.1 g
     rw [bchks_nil]
    generalize Br.chks (d+1) (m+1) ks=q at h4 hq hv hb1 hb2
    obtain ⟨qm,qe⟩:=q
    dsimp only at h4
    clear ih'
    generalize segErr t els=se at h3 hv hb1 hb2
    generalize hc:(if 2000 < m+1∨6 < d then (m+1,(2:Int)) else if ([]:Str) ≠ []∧isNameB []=false then (m+1,5) else if ([]:Str) = []∧0 < ks.length then (m+1,3) else if ([]:Str) ≠ []∧(¬ (t = []∧els.length=0)∨ks.length=0∨headNamed ks=true) then (m+1,3) else if ([]:Str) = [] then (m+1,se) else (qm,qe))=ck at hv hb1 hb2
    repeat'((conv=>whnf);first|(try(first|apply eN|apply eI|apply eC);conv=>whnf);apply sD;(focus(try intro hc;have hc0:=hc;(try simp only[SPLT]at hc);try refine and0 ?_);first|(exact idx_br hx rfl)|(exact show 0≤_∧_=some [D.str [],D.str [],D.sl 0 1 [],D.sl 0 4 []] from absurd hc0 (by simp))|exact gx h3|exact gx h1|(refine gx (h4 (by omega) (by omega))<;>exact pre)|(refine gx (isName2_sem ?_ ?_)<;>exact pre)|(refine gx (checkOne2_sem ?_ ?_ ?_ ?_)<;>exact pre)|(refine gx (tree3L_sem ?_ ?_ ?_ ?_ ?_ ?_ ?_ ?_ ?_ ?_)<;>exact pre)|exact sideG)|apply rR|apply rE|apply rH|(apply cD<;>intro hb<;>(try simp only[SPLT]at hb)<;>try exact noB))
    all_goals try exact false
    ·rw [if_pos hb] at hc
     subst hc
     rw [if_pos (by simp)] at hv
     subst hv
     exact finR
    ·have hk:0 < ks.length:=by
      rcases hb with h|h
      ·have:=h.2;omega
      ·exact absurd trivial h.1
     rw [if_neg (by omega),if_neg (by simp),if_pos ⟨rfl,hk⟩] at hc
     subst hc
     rw [if_pos (by simp)] at hv
     subst hv
     exact finR
    ·rename_i g1 g2 g3 g4 g5 g6
     rw [if_neg (by omega),if_neg (by simp),if_neg (fun h=>by have:=h.2;rcases g5.1 with q|q;exact q trivial;omega),if_neg (by simp),if_pos rfl] at hc
     subst hc
     dsimp only at hv
     rw [if_pos hb] at hv
     subst hv
     exact finR
    ·rename_i g1 g2 g3 g4 g5 g6 g7
     have hk:ks.length=0:=by rcases g5.1 with q|q;exact absurd trivial q;omega
     cases hq hk
     exact absurd rfl hb
    ·rename_i g1 g2 g3 g4 g5 g6 g7
     have hk:ks.length=0:=by rcases g5.1 with q|q;exact absurd trivial q;omega
     cases hq hk
     rw [if_neg (by omega),if_neg (by simp),if_neg (fun h=>by have:=h.2;omega),if_neg (by simp),if_pos rfl] at hc
     subst hc
     dsimp only at hv
     rw [if_neg (by simpa using g7)] at hv
     refine ⟨(i+1,m+1),⟨by dsimp only;omega,by dsimp only;omega,by dsimp only;omega,hv⟩,by dsimp only;omega,?_⟩
     exact finF
   ·have hp:pathMany nm m=m:=if_neg hnm
    rw [hp] at hv hb1 hb2
    have h4:=fun g=>ih' g m hm1 hm2
    clear ih' h3
    obtain ⟨y,hy⟩:∃ y:Br,0 < ks.length→ks[0]?=some y:=⟨ks[0]?.getD (.mk [] [] [] []),fun h=>by rw [List.getElem?_eq_getElem h];rfl⟩
    generalize isNameB nm=nb at h1 hv hb1 hb2
    generalize Br.chks (d+1) m ks=q at h4 hv hb1 hb2
    obtain ⟨qm,qe⟩:=q
    dsimp only at h4
    generalize hc:(if 2000 < m∨6 < d then (m,(2:Int)) else if nm ≠ []∧nb=false then (m,5) else if nm = []∧0 < ks.length then (m,3) else if nm ≠ []∧(¬ (t = []∧els.length=0)∨ks.length=0∨headNamed ks=true) then (m,3) else if nm = [] then (m,segErr t els) else (qm,qe))=ck at hv hb1 hb2
    obtain ⟨yn,yt,ye,yk⟩:=y
    have hnh:ks.length ≠ 0→headNamed ks=(yn != []):=fun h=>by
     cases ks with
     |nil=>exact absurd rfl h
     |cons z l=>
      have hz:=hy (by simp)
      simp at hz
      subst hz
      rfl
    repeat'((conv=>whnf);first|(try(first|apply eN|apply eI|apply eC);conv=>whnf);apply sD;(focus(try intro hc;have hc0:=hc;(try simp only[SPLT]at hc);try refine and0 ?_);first|(exact idx_br hx rfl)|(exact idx_br (hy (by omega)) rfl)|exact gx h1|(refine gx (h4 (by omega))<;>exact pre)|(refine gx (isName2_sem ?_ ?_)<;>exact pre)|(refine gx (checkOne2_sem ?_ ?_ ?_ ?_)<;>exact pre)|(refine gx (tree3L_sem ?_ ?_ ?_ ?_ ?_ ?_ ?_ ?_ ?_ ?_)<;>exact pre)|exact sideG)|apply rR|apply rE|apply rH|((apply cD)<;>intro hb<;>(try simp only [SPLT] at hb)<;>(try first|exact noB|((exact absurd hb hnm;done);done))))
    all_goals try exact false
    ·rw [if_pos hb] at hc
     subst hc
     rw [if_pos (by simp)] at hv
     subst hv
     exact finR
    ·rw [if_neg (by omega),if_pos hb] at hc
     subst hc
     rw [if_pos (by simp)] at hv
     subst hv
     exact finR
    ·rename_i g1 g2 g3 g4
     have g3:nb=true:=g4.resolve_left hnm
     have hq:¬ (t = []∧els.length=0)∨ks.length=0∨headNamed ks=true:=by
      rcases hb with h|h
      ·exact absurd h.1 hnm
      ·rcases h.2 with ((h|h)|h)|h
       ·exact .inl fun e=>h e.1
       ·exact .inl fun e=>h (by omega)
       ·exact .inr (.inl (by omega))
       ·by_cases hk:ks.length=0
        ·exact .inr (.inl hk)
        ·exact .inr (.inr (by rw [hnh hk];simpa using h))
     rw [if_neg (by omega),if_neg (by simp [g3]),if_neg (fun h=>hnm h.1),if_pos ⟨hnm,hq⟩] at hc
     subst hc
     rw [if_pos (by simp)] at hv
     subst hv
     exact finR
    ·rename_i g1 g2 g3 g4 g5 g6
     have g4':nb=true:=g4.resolve_left hnm
     obtain ⟨⟨⟨q1,q2⟩,q3⟩,q4⟩:=g5.2.resolve_left hnm
     have hq:¬ (nm ≠ []∧(¬ (t = []∧els.length=0)∨ks.length=0∨headNamed ks=true)):=by
      rintro ⟨_,h|h|h⟩
      ·exact h ⟨q1,by omega⟩
      ·omega
      ·rw [hnh (by omega),q4] at h
       cases h
     rw [if_neg (by omega),if_neg (by simp [g4']),if_neg (fun h=>hnm h.1),if_neg hq,if_neg hnm] at hc
     subst hc
     dsimp only at hv
     rw [if_pos hb] at hv
     subst hv
     exact finR
    ·rename_i g1 g2 g3 g4 g5 g6
     have g4':nb=true:=g4.resolve_left hnm
     obtain ⟨⟨⟨q1,q2⟩,q3⟩,q4⟩:=g5.2.resolve_left hnm
     have hq:¬ (nm ≠ []∧(¬ (t = []∧els.length=0)∨ks.length=0∨headNamed ks=true)):=by
      rintro ⟨_,h|h|h⟩
      ·exact h ⟨q1,by omega⟩
      ·omega
      ·rw [hnh (by omega),q4] at h
       cases h
     rw [if_neg (by omega),if_neg (by simp [g4']),if_neg (fun h=>hnm h.1),if_neg hq,if_neg hnm] at hc
     subst hc
     dsimp only at hv hb1 hb2
     rw [if_neg (by simpa using hb)] at hv
     have hb2':=hb2 hb
     refine ⟨(i+1,qm),⟨by dsimp only;omega,by dsimp only;omega,by dsimp only;omega,hv⟩,by dsimp only;omega,?_⟩
     exact finF
theorem tree3_sem (b:Br):b.Txt→∀ d n:Int,0≤n→n≤2000→0≤d→d≤1000→Sem Tryz.prog 61 [.sl 0 4 (b.kids.map Br.row),.int .i64 d,.int .i64 n] (.tup [.int .i64 (Br.chks d n b.kids).1,.int .i64 (Br.chks d n b.kids).2]):=by
 induction b using Br.ind with
 |h nm t els ks ih=>
  rintro ⟨t1,t2,t3,t4,t5⟩ d n hn0 hn hd0 hd
  exact tree3L_sem ks d n hd0 hd hn0 hn t5 t4 fun g x hx m m0 m1=>ih x hx (t4 x hx) (d+1) m m0 m1 (by omega) (by omega)
theorem checkTree3_sem (l:List Br) (hl:l.length≤9223372036854775807) (ht:∀ b ∈ l,b.Txt):Sem Tryz.prog 29 [.sl 0 4 (l.map Br.row)] (.int .i64 (treeErr l)):=by
 have h:=tree3L_sem l 0 0 (by omega) (by omega) (by omega) (by omega) hl ht fun g x hx m m0 m1=>tree3_sem x (ht x hx) (0+1) m m0 m1 (by omega) (by omega)
 unfold treeErr
 generalize Br.chks 0 0 l=y at h ⊢
 obtain ⟨m,e⟩:=y
 dsimp only at h ⊢
 refine si [1000044,1000045,1000084] Tryz.func29 ?_
 repeat'((conv=>whnf);first|(try(first|apply eN|apply eC);conv=>whnf);apply sD;(focus first|exact gx h|(refine gx (tree3L_sem ?_ ?_ ?_ ?_ ?_ ?_ ?_ ?_ ?_ ?_)<;>exact pre)|exact side)|apply rR|apply rE|apply rH|(apply cD<;>intro hb<;>(try simp only[SPLT]at hb)<;>try exact noB))
 all_goals try exact false
 exact finR
theorem check_sem (c:Cond):c.Txt→∀ d n:Int,0≤n→n≤200→0≤d→d≤1000→Sem Tryz.prog 60 [.agg c.row,.int .i64 d,.int .i64 n] (.tup [.int .i64 (c.chk d n).1,.int .i64 (c.chk d n).2]):=by
 induction c using Cond.ind with
 |h k ks p vs lo hi ih=>
  intro ht d n hn0 hn hd0 hd
  obtain ⟨_,hvs,hks⟩:=ht
  have h1:=checkNode_sem k (ks.map Cond.row) p vs lo hi hvs
  rw [List.length_map] at h1
  rw [chk_mk,Cond.row_mk]
  generalize ownErr k ks.length p vs lo hi=e at h1 ⊢
  generalize hr:(if 200 < n+1∨6 < d then (n+1,(2:Int)) else if e ≠ 0 then (n+1,e) else Cond.chks ks (d+1) (n+1))=r
  refine si [1000044] Tryz.func60 ?_
  repeat'((conv=>whnf);first|(try(first|apply eN|apply eI|apply eC);conv=>whnf);apply sD;(focus(try intro hc;have hc0:=hc;(try simp only[SPLT]at hc);try refine and0 ?_);first|exact gx h1|(refine gx (checkNode_sem ?_ ?_ ?_ ?_ ?_ ?_ ?_)<;>exact pre)|exact sideG)|apply rR|apply rE|apply rH|(apply cD<;>intro hb<;>(try simp only[SPLT]at hb)<;>try exact noB))
  all_goals try exact false
  ·rw [if_pos (by omega)] at hr
   subst hr
   exact finR
  ·rw [if_neg (by omega),if_pos (by omega)] at hr
   subst hr
   exact finR
  ·have hll:(ks.map Cond.row).length=ks.length:=List.length_map _
   rw [if_neg (by omega),if_neg (by omega)] at hr
   refine loop_go (M:=fun t=>mem t [0,1000044]) hT hM (fun x:Nat × Int => [(9,.int .i64 x.1),(2,.int .i64 x.2)]) (fun x=>x.1≤ks.length∧n+1+x.1≤x.2∧x.2≤200∧Cond.chks (ks.drop x.1) (d+1) x.2=r) (fun x=>ks.length - x.1) ((0,n+1)) ?_ ?_ ?_
   ·exact finF
   ·exact ⟨Nat.zero_le _,by dsimp only;omega,by dsimp only;omega,hr⟩
   ·rintro ⟨i,m⟩ ⟨hi,hm1,hm2,hv⟩
    dsimp only at hi hm1 hm2 hv ⊢
    cases hx:ks[i]? with
    |none=>
     have hm:=List.getElem?_eq_none_iff.1 hx
     rw [List.drop_of_length_le hm,chks_nil] at hv
     subst hv
     repeat'((conv=>whnf);first|(try(first|apply eN|apply eI|apply eC);conv=>whnf);apply sD;(focus(try intro hc;have hc0:=hc;(try simp only[SPLT]at hc);try refine and0 ?_);first|(refine gx (checkNode_sem ?_ ?_ ?_ ?_ ?_ ?_ ?_)<;>exact pre)|exact sideG)|apply rR|apply rE|apply rH|(apply cD<;>intro hb<;>(try simp only[SPLT]at hb)<;>try exact noB))
     all_goals try exact false
     exact finR
    |some x=>
     have hlt:=(gLt hx)
     obtain ⟨hb1,hb2⟩:=chk_bd x (d+1) m hm2
     have ih':=ih x (gMem hx) (hks x (gMem hx)) (d+1) m (by omega) hm2 (by omega) (by omega)
     rw [chks_at hx] at hv
     generalize x.chk (d+1) m=y at hv ih' hb1 hb2
     obtain ⟨m2,e2⟩:=y
     obtain ⟨k1,ks1,p1,vs1,lo1,hi1⟩:=x
     rw [Cond.row_mk] at ih'
     dsimp only at hv ih' hb1 hb2
     repeat'((conv=>whnf);first|(try(first|apply eN|apply eI|apply eC);conv=>whnf);apply sD;(focus(try intro hc;have hc0:=hc;(try simp only[SPLT]at hc);try refine and0 ?_);first|(exact idx_row hx rfl)|exact gx ih' | (refine gx (checkNode_sem ?_ ?_ ?_ ?_ ?_ ?_ ?_)<;>exact pre)|exact sideG)|apply rR|apply rE|apply rH|(apply cD<;>intro hb<;>(try simp only[SPLT]at hb)<;>try exact noB))
     all_goals try exact false
     ·rw [if_pos (by omega)] at hv
      subst hv
      exact finR
     ·rw [if_neg (by omega)] at hv
      refine ⟨(i+1,m2),⟨by dsimp only;omega,by dsimp only;omega,by dsimp only;omega,hv⟩,by dsimp only;omega,?_⟩
      exact finF
theorem checkCond4_sem (c:Cond) (ht:c.Txt):Sem Tryz.prog 28 [.agg c.row] (.int .i64 c.err):=by
 have h:=check_sem c ht 0 0 (by omega) (by omega) (by omega) (by omega)
 unfold Cond.err
 generalize c.chk 0 0=y at h ⊢
 obtain ⟨m,e⟩:=y
 obtain ⟨k,ks,p,vs,lo,hi⟩:=c
 rw [Cond.row_mk] at h ⊢
 dsimp only at h ⊢
 refine si [1000044] Tryz.func28 ?_
 repeat'((conv=>whnf);first|(try(first|apply eN|apply eI|apply eC);conv=>whnf);apply sD;(focus first|exact gx h|exact side)|apply rR|apply rE|apply rH|(apply cD<;>intro hb<;>(try simp only[SPLT]at hb)<;>try exact noB))
 all_goals try exact false
 exact finR
structure Rul where
 n:Str
 c:Cond
def Rul.row (r:Rul):List D:=.str r.n::r.c.row
structure Rul.Ok (r:Rul):Prop where
 n:r.n.length≤9223372036854775807
 c:r.c.Txt
theorem idx_rul {l:List Rul} {i:Int} {j:Nat} {n:Str} {k:Int} {ks:List Cond} {p:Str} {vs:List Str} {lo hi:Int} (h:l[j]?=some ⟨n,.mk k ks p vs lo hi⟩) (hi':i=j):0≤i∧(l.map Rul.row)[i.toNat]?=some [.str n,.int .i64 k,.sl 0 6 (ks.map Cond.row),.str p,.sl 0 1 (vs.map fun s => [.str s]),.int .i64 lo,.int .i64 hi]:=by
 subst hi'
 refine ⟨by omega,?_⟩
 rw [Int.toNat_natCast,List.getElem?_map,h,Option.map_some,Rul.row,Cond.row_mk]
def rulesE:Option Str→List Rul→Int
 |_,[]=>0
 |p,r::l=>if isNameB r.n=false then 5 else if notAfter p r.n=true then 8 else if r.c.err ≠ 0 then r.c.err else rulesE (some r.n) l
def rulesN (l:List Rul):Int:=if 200 < l.length then 2 else rulesE none l
def prevR (l:List Rul):Nat→Option Str
 |0=>none
 |j+1=>l[j]?.map Rul.n
theorem rulesE_at {l:List Rul} {k:Nat} {r:Rul} {p:Option Str} (h:l[k]?=some r):rulesE p (l.drop k)=if isNameB r.n=false then 5 else if notAfter p r.n=true then 8 else if r.c.err ≠ 0 then r.c.err else rulesE (some r.n) (l.drop (k+1)):=by
 rw [List.drop_eq_getElem_cons (gLt h),(List.getElem?_eq_some_iff.1 h).2]
 rfl
theorem prevR_bad {l:List Rul} {k:Nat} {q:Rul} {n:Str} (hq:0 < k→l[k - 1]?=some q):notAfter (prevR l k) n=(decide (0 < (k:Int)) && (Op.bytesLess n q.n || n == q.n)):=by
 cases k with
 |zero=>rfl
 |succ j=>
  have:=hq (by omega)
  simp only [Nat.add_sub_cancel] at this
  simp only [prevR,this,Option.map_some,notAfter]
  rw [decide_eq_true (by omega),Bool.true_and]
theorem nofR {k:Nat} {a b:Bool} (h:(k:Int)≤0∨a=false∧¬ b=true):¬ (decide (0 < (k:Int)) && (a || b))=true:=by
 simp only [Bool.and_eq_true,Bool.or_eq_true,decide_eq_true_eq]
 rintro ⟨h1,h2⟩
 rcases h with h|⟨h3,h4⟩
 ·omega
 ·rcases h2 with h2|h2
  ·rw [h3] at h2;cases h2
  ·exact h4 h2
theorem prevR_next {l:List Rul} {k:Nat} {r:Rul} (h:l[k]?=some r):prevR l (k+1)=some r.n:=by rw [prevR,h,Option.map_some]
theorem checkRules_sem (l:List Rul) (hok:∀ r ∈ l,r.Ok):Sem Tryz.prog 15 [.sl 0 7 (l.map Rul.row)] (.int .i64 (rulesN l)):=by
 have hll:(l.map Rul.row).length=l.length:=List.length_map _
 refine si [4,2000004,1000021,1000034,1000044] Tryz.func15 ?_
 repeat'((conv=>whnf);first|(try(first|apply eN|apply eI|apply eC);conv=>whnf);apply sD;(focus(try intro hc;have hc0:=hc;(try simp only[SPLT]at hc);try refine and0 ?_);first|(refine gx (checkCond_sem ?_)<;>exact pre)|(refine gx (isName_sem ?_ ?_)<;>exact pre)|(refine gx (bgm_check )<;>exact pre)|exact sideG)|(first|apply dG|apply kB);kernel_rfl|apply rR|apply rE|apply rH|(apply cD<;>intro hb<;>(try simp only[SPLT]at hb)<;>try exact noB))
 all_goals try exact false
 ·repeat' ((conv=>whnf);first|exact endR|with_reducible first|apply And.intro|apply oR|apply oN|apply dC)
  all_goals (conv=>whnf)
  exact rle_int (by rw [rulesN,if_pos (by omega)])
 ·have hR:rulesN l=rulesE none l:=by rw [rulesN,if_neg (by omega)]
  generalize rulesN l=R at hR ⊢
  refine loop_go (M:=fun t=>mem t [4,2000004,1000021,1000034,1000044]) hT hM (fun k:Nat => [(11,.int .i64 k)]) (fun k=>k≤l.length∧rulesE (prevR l k) (l.drop k)=R) (fun k=>l.length - k) (0) ?_ ?_ ?_
  ·exact finF
  ·exact ⟨Nat.zero_le _,hR.symm⟩
  ·rintro k ⟨hk,hv⟩
   cases hx:l[k]? with
   |none=>
    have hm':=List.getElem?_eq_none_iff.1 hx
    rw [List.drop_of_length_le hm',rulesE] at hv
    repeat'((conv=>whnf);first|(try(first|apply eN|apply eI|apply eC);conv=>whnf);apply sD;(focus(try intro hc;have hc0:=hc;(try simp only[SPLT]at hc);try refine and0 ?_);first|(refine gx (checkCond_sem ?_)<;>exact pre)|(refine gx (isName_sem ?_ ?_)<;>exact pre)|(refine gx (bgm_check )<;>exact pre)|exact sideG)|(first|apply dG|apply kB);kernel_rfl|apply rR|apply rE|apply rH|(apply cD<;>intro hb<;>(try simp only[SPLT]at hb)<;>try exact noB))
    all_goals try exact false
    repeat' ((conv=>whnf);first|exact endR|with_reducible first|apply And.intro|apply oR|apply oN|apply dC)
    all_goals (conv=>whnf)
    exact rle_int hv
   |some r=>
    have hlt:=(gLt hx)
    obtain ⟨q,hq⟩:∃ q:Rul,0 < k→l[k - 1]?=some q:=⟨l[k - 1]?.getD r,fun h=>by rw [List.getElem?_eq_getElem (by omega)];rfl⟩
    have hnx:=prevR_next hx
    have hro:=hok r (gMem hx)
    have h1:=isName_sem r.n hro.n
    have h2:=checkCond_sem r.c
    rw [rulesE_at hx,prevR_bad hq] at hv
    obtain ⟨n,c⟩:=r
    obtain ⟨qn,⟨kq,ksq,pq,vsq,loq,hiq⟩⟩:=q
    dsimp only at h1 h2 hv hnx
    generalize isNameB n=b1 at h1 hv
    generalize c.err=e1 at h2 hv
    obtain ⟨k1,ks1,p1,vs1,lo1,hi1⟩:=c
    rw [Cond.row_mk] at h2
    repeat'((conv=>whnf);first|(try(first|apply eN|apply eI|apply eC);conv=>whnf);apply sD;(focus(try intro hc;have hc0:=hc;(try simp only[SPLT]at hc);try refine and0 ?_);first|(exact idx_rul hx rfl)|(exact idx_rul (hq (by omega)) (by omega))|exact gx h1|exact gx h2|(refine gx (checkCond_sem ?_)<;>exact pre)|(refine gx (isName_sem ?_ ?_)<;>exact pre)|(refine gx (bgm_check )<;>exact pre)|exact sideG)|(first|apply dG|apply kB);kernel_rfl|apply rR|apply rE|apply rH|(apply cD<;>intro hb<;>(try simp only[SPLT]at hb)<;>try exact noB))
    all_goals try exact false
    ·repeat' ((conv=>whnf);first|exact endR|with_reducible first|apply And.intro|apply oR|apply oN|apply dC)
     all_goals (conv=>whnf)
     exact rle_int (by rw [← hv,if_pos hb])
    ·rename_i hn
     repeat' ((conv=>whnf);first|exact endR|with_reducible first|apply And.intro|apply oR|apply oN|apply dC)
     all_goals (conv=>whnf)
     exact rle_int (by rw [← hv,if_neg (by simp [hn]),if_pos (by simpa using hb)])
    ·rename_i hn hc
     repeat' ((conv=>whnf);first|exact endR|with_reducible first|apply And.intro|apply oR|apply oN|apply dC)
     all_goals (conv=>whnf)
     exact rle_int (by rw [← hv,if_neg (by simp [hn]),if_neg (nofR (by simpa using hc)),if_pos hb])
    ·rename_i hn hc
     refine ⟨k+1,⟨by omega,by rw [hnx,← hv,if_neg (by simp [hn]),if_neg (nofR (by simpa using hc)),if_neg (by simpa using hb)]⟩,by omega,?_⟩
     exact finF
theorem checkRules4_sem (l:List Rul) (hok:∀ r ∈ l,r.Ok):Sem Tryz.prog 16 [.sl 0 7 (l.map Rul.row)] (.int .i64 (rulesN l)):=by
 have hll:(l.map Rul.row).length=l.length:=List.length_map _
 refine si [1000021,1000034,1000044] Tryz.func16 ?_
 repeat'((conv=>whnf);first|(try(first|apply eN|apply eI|apply eC);conv=>whnf);apply sD;(focus(try intro hc;have hc0:=hc;(try simp only[SPLT]at hc);try refine and0 ?_);first|(refine gx (isName2_sem ?_ ?_)<;>exact pre)|(refine gx (checkCond4_sem ?_ ?_)<;>exact pre)|exact sideG)|(first|apply dG|apply kB);kernel_rfl|apply rR|apply rE|apply rH|(apply cD<;>intro hb<;>(try simp only[SPLT]at hb)<;>try exact noB))
 all_goals try exact false
 ·repeat' ((conv=>whnf);first|exact endR|with_reducible first|apply And.intro|apply oR|apply oN|apply dC)
  all_goals (conv=>whnf)
  exact rle_int (by rw [rulesN,if_pos (by omega)])
 ·have hR:rulesN l=rulesE none l:=by rw [rulesN,if_neg (by omega)]
  generalize rulesN l=R at hR ⊢
  refine loop_go (M:=fun t=>mem t [1000021,1000034,1000044]) hT hM (fun k:Nat => [(3,.int .i64 k)]) (fun k=>k≤l.length∧rulesE (prevR l k) (l.drop k)=R) (fun k=>l.length - k) (0) ?_ ?_ ?_
  ·exact finF
  ·exact ⟨Nat.zero_le _,hR.symm⟩
  ·rintro k ⟨hk,hv⟩
   cases hx:l[k]? with
   |none=>
    have hm':=List.getElem?_eq_none_iff.1 hx
    rw [List.drop_of_length_le hm',rulesE] at hv
    repeat'((conv=>whnf);first|(try(first|apply eN|apply eI|apply eC);conv=>whnf);apply sD;(focus(try intro hc;have hc0:=hc;(try simp only[SPLT]at hc);try refine and0 ?_);first|(refine gx (isName2_sem ?_ ?_)<;>exact pre)|(refine gx (checkCond4_sem ?_ ?_)<;>exact pre)|exact sideG)|(first|apply dG|apply kB);kernel_rfl|apply rR|apply rE|apply rH|(apply cD<;>intro hb<;>(try simp only[SPLT]at hb)<;>try exact noB))
    all_goals try exact false
    repeat' ((conv=>whnf);first|exact endR|with_reducible first|apply And.intro|apply oR|apply oN|apply dC)
    all_goals (conv=>whnf)
    exact rle_int hv
   |some r=>
    have hlt:=(gLt hx)
    obtain ⟨q,hq⟩:∃ q:Rul,0 < k→l[k - 1]?=some q:=⟨l[k - 1]?.getD r,fun h=>by rw [List.getElem?_eq_getElem (by omega)];rfl⟩
    have hnx:=prevR_next hx
    have hro:=hok r (gMem hx)
    have h1:=isName2_sem r.n hro.n
    have h2:=checkCond4_sem r.c hro.c
    rw [rulesE_at hx,prevR_bad hq] at hv
    obtain ⟨n,c⟩:=r
    obtain ⟨qn,⟨kq,ksq,pq,vsq,loq,hiq⟩⟩:=q
    dsimp only at h1 h2 hv hnx
    generalize isNameB n=b1 at h1 hv
    generalize c.err=e1 at h2 hv
    obtain ⟨k1,ks1,p1,vs1,lo1,hi1⟩:=c
    rw [Cond.row_mk] at h2
    repeat'((conv=>whnf);first|(try(first|apply eN|apply eI|apply eC);conv=>whnf);apply sD;(focus(try intro hc;have hc0:=hc;(try simp only[SPLT]at hc);try refine and0 ?_);first|(exact idx_rul hx rfl)|(exact idx_rul (hq (by omega)) (by omega))|exact gx h1|exact gx h2|(refine gx (isName2_sem ?_ ?_)<;>exact pre)|(refine gx (checkCond4_sem ?_ ?_)<;>exact pre)|exact sideG)|(first|apply dG|apply kB);kernel_rfl|apply rR|apply rE|apply rH|(apply cD<;>intro hb<;>(try simp only[SPLT]at hb)<;>try exact noB))
    all_goals try exact false
    ·repeat' ((conv=>whnf);first|exact endR|with_reducible first|apply And.intro|apply oR|apply oN|apply dC)
     all_goals (conv=>whnf)
     exact rle_int (by rw [← hv,if_pos hb])
    ·rename_i hn
     repeat' ((conv=>whnf);first|exact endR|with_reducible first|apply And.intro|apply oR|apply oN|apply dC)
     all_goals (conv=>whnf)
     exact rle_int (by rw [← hv,if_neg (by simp [hn]),if_pos (by simpa using hb)])
    ·rename_i hn hc
     repeat' ((conv=>whnf);first|exact endR|with_reducible first|apply And.intro|apply oR|apply oN|apply dC)
     all_goals (conv=>whnf)
     exact rle_int (by rw [← hv,if_neg (by simp [hn]),if_neg (nofR (by simpa using hc)),if_pos hb])
    ·rename_i hn hc
     refine ⟨k+1,⟨by omega,by rw [hnx,← hv,if_neg (by simp [hn]),if_neg (nofR (by simpa using hc)),if_neg (by simpa using hb)]⟩,by omega,?_⟩
     exact finF
theorem has4_sem (l:List Str) (s:Str):Sem Tryz.prog 22 [.sl 0 1 (l.map fun s => [.str s]),.str s] (.bool (l.contains s)):=by
 refine sem_len 0 rfl rfl fun hl => ?_
 rw [List.length_map] at hl
 have hr:l.contains s=(l.drop 0).contains s:=rfl
 generalize l.contains s=r at hr ⊢
 refine si [1000021,1000034,1000044] Tryz.func22 ?_
 repeat'((conv=>whnf);first|(try(first|apply eN|apply eI|apply eC);conv=>whnf);apply sD;(focus first|exact side)|apply rR|apply rE|apply rH|(apply cD<;>intro hb<;>(try simp only[SPLT]at hb)<;>try exact noB))
 all_goals try exact false
 refine loop_go (M:=fun t=>mem t [1000021,1000034,1000044]) hT hM (fun k:Nat => [(5,.int .i64 k)]) (fun k=>k≤l.length∧(l.drop k).contains s=r) (fun k=>l.length - k) (0) ?_ ?_ ?_
 ·exact finF
 ·exact ⟨Nat.zero_le _,hr.symm⟩
 ·rintro k ⟨hk,hv⟩
  have hll:(l.map fun s => [D.str s]).length=l.length:=List.length_map _
  cases hx:l[k]? with
  |none=>
   have hm':=List.getElem?_eq_none_iff.1 hx
   rw [List.drop_of_length_le hm'] at hv
   repeat'((conv=>whnf);first|(try(first|apply eN|apply eI|apply eC);conv=>whnf);apply sD;(focus first|exact side)|apply rR|apply rE|apply rH|(apply cD<;>intro hb<;>(try simp only[SPLT]at hb)<;>try exact noB))
   all_goals try exact false
   repeat' ((conv=>whnf);first|exact endR|with_reducible first|apply And.intro|apply oR|apply oN|apply dC)
   all_goals (conv=>whnf)
   exact rle_bool hv
  |some x=>
   have hlt:=(gLt hx)
   rw [List.drop_eq_getElem_cons hlt,(List.getElem?_eq_some_iff.1 hx).2,List.contains_cons] at hv
   repeat'((conv=>whnf);first|(try(first|apply eN|apply eI|apply eC);conv=>whnf);apply sD;(focus first|(exact idx_eq (f:=fun s => [D.str s]) hx rfl)|exact side)|apply rR|apply rE|apply rH|(apply cD<;>intro hb<;>(try simp only[SPLT]at hb)<;>try exact noB))
   all_goals try exact false
   ·repeat' ((conv=>whnf);first|exact endR|with_reducible first|apply And.intro|apply oR|apply oN|apply dC)
    all_goals (conv=>whnf)
    refine rle_bool ?_
    rw [← hv]
    have:(s == x)=true:=by simp_all
    rw [this,Bool.true_or]
   ·refine ⟨k+1,⟨by omega,?_⟩,by omega,?_⟩
    ·rw [← hv]
     have:(s == x)=false:=by simp only [beq_eq_false_iff_ne,ne_eq];exact fun e=>by simp_all
     rw [this,Bool.false_or]
    ·exact finF
def Ent (cs:List Cond) (b:Cond):Prop:=∀ v:Cond→Bool,(∀ c ∈ cs,c.ev v=true)→b.ev v=true
theorem Ent.mono {cs ds:List Cond} {b:Cond} (h:Ent cs b) (hs:∀ c ∈ cs,c ∈ ds):Ent ds b:=fun v hv=>h v fun c hc=>hv c (hs c hc)
theorem rulesE_names:∀ (l:List Rul) (p:Option Str),rulesE p l=0→∀ r ∈ l,isNameB r.n=true∧r.c.err=0
 |[],_,_=>by simp
 |r::l,p,h=>by
  rw [rulesE] at h
  split at h
  ·omega
  ·rename_i h1
   split at h
   ·omega
   ·split at h
    ·omega
    ·rename_i h3
     intro x hx
     rcases List.mem_cons.1 hx with rfl|hx
     ·exact ⟨by simpa using h1,by simpa using h3⟩
     ·exact rulesE_names l _ h x hx
end Go.Proofs.YtnlbekongmkmjaaGreatDoor
