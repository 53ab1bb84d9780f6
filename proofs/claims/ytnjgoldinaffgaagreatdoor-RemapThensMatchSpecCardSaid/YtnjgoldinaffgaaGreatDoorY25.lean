/- Conditions are right: the reference's check of all parts (walks). Maps: what is wrong with fields, as the reference finds it (walk). -/
import Derived.Test.YtnjgoldinaffgaaGreatDoorY24
namespace Go.Proofs.YtnjgoldinaffgaaGreatDoor
open _root_.Go.Proofs.Tryz
set_option linter.unusedSimpArgs false
set_option linter.unusedVariables false
open Go.RowKit
set_option maxRecDepth 100000
set_option maxHeartbeats 4000000
theorem zHw (c:Cond):c.Txt→∀ d n:Int,0≤n→n≤200→0≤d→d≤1000→Sem Tryz.prog 169 [.agg c.row,.int .i64 d,.int .i64 n] (.tup [.int .i64 (c.chk d n).1,.int .i64 (c.chk d n).2]):=by
 induction c using Cond.ind with
 |h k ks p vs lo hi ih=>
  intro ht d n hn0 hn hd0 hd
  obtain ⟨_,hvs,hks⟩:=ht
  have h1:=iR k (ks.map Cond.row) p vs lo hi hvs
  rw [List.length_map] at h1
  rw [zFh,Cond.row_mk]
  generalize jL k ks.length p vs lo hi=e at h1 ⊢
  generalize hr:(if 200 < n+1∨6 < d then (n+1,(2:Int)) else if e ≠ 0 then (n+1,e) else Cond.chks ks (d+1) (n+1))=r
  refine si [1000157] func169 ?_
  repeat'((conv=>whnf);first|(try(first|apply eN|apply eI|apply eC);conv=>whnf);apply sD;(focus(try intro hc;have hc0:=hc;(try simp only[aA]at hc);try refine aE ?_);first|exact gx h1|(refine gx (iR ?_ ?_ ?_ ?_ ?_ ?_ ?_)<;>exact pre)|exact aC)|apply rR|apply rE|apply rH| (apply cD<;>intro hb<;>(try simp only[aA]at hb)<;>try exact aM))
  all_goals try exact false
  ·rw [if_pos (by omega)] at hr
   subst hr
   exact aT
  ·rw [if_neg (by omega),if_pos (by omega)] at hr
   subst hr
   exact aT
  ·have hll:(ks.map Cond.row).length=ks.length:=List.length_map _
   rw [if_neg (by omega),if_neg (by omega)] at hr
   refine aL (M:=fun t=>gF t [0,1000157]) hT hM (fun x:Nat × Int => [(9,.int .i64 x.1),(2,.int .i64 x.2)]) (fun x=>x.1≤ks.length∧n+1+x.1≤x.2∧x.2≤200∧Cond.chks (ks.drop x.1) (d+1) x.2=r) (fun x=>ks.length - x.1) ((0,n+1)) ?_ ?_ ?_
   ·exact aV
   ·exact ⟨Nat.zero_le _,by dsimp only;omega,by dsimp only;omega,hr⟩
   ·rintro ⟨i,m⟩ ⟨hi,hm1,hm2,hv⟩
    dsimp only at hi hm1 hm2 hv ⊢
    cases hx:ks[i]? with
    |none=>
     have hm:=List.getElem?_eq_none_iff.1 hx
     rw [List.drop_of_length_le hm,zQ] at hv
     subst hv
     repeat'((conv=>whnf);first|(try(first|apply eN|apply eI|apply eC);conv=>whnf);apply sD;(focus(try intro hc;have hc0:=hc;(try simp only[aA]at hc);try refine aE ?_);first|(refine gx (iR ?_ ?_ ?_ ?_ ?_ ?_ ?_)<;>exact pre)|exact aC)|apply rR|apply rE|apply rH| (apply cD<;>intro hb<;>(try simp only[aA]at hb)<;>try exact aM))
     all_goals try exact false
     exact aT
    |some x=>
     have hlt:=(bC hx)
     obtain ⟨hb1,hb2⟩:=zKC x (d+1) m hm2
     have ih':=ih x (aK hx) (hks x (aK hx)) (d+1) m (by omega) hm2 (by omega) (by omega)
     rw [zGe hx] at hv
     generalize x.chk (d+1) m=y at hv ih' hb1 hb2
     obtain ⟨m2,e2⟩:=y
     obtain ⟨k1,ks1,p1,vs1,lo1,hi1⟩:=x
     rw [Cond.row_mk] at ih'
     dsimp only at hv ih' hb1 hb2
     repeat'((conv=>whnf);first|(try(first|apply eN|apply eI|apply eC);conv=>whnf);apply sD;(focus(try intro hc;have hc0:=hc;(try simp only[aA]at hc);try refine aE ?_);first|(exact wU hx rfl)|exact gx ih' | (refine gx (iR ?_ ?_ ?_ ?_ ?_ ?_ ?_)<;>exact pre)|exact aC)|apply rR|apply rE|apply rH| (apply cD<;>intro hb<;>(try simp only[aA]at hb)<;>try exact aM))
     all_goals try exact false
     ·rw [if_pos (by omega)] at hv
      subst hv
      exact aT
     ·rw [if_neg (by omega)] at hv
      refine ⟨(i+1,m2),⟨by dsimp only;omega,by dsimp only;omega,by dsimp only;omega,hv⟩,by dsimp only;omega,?_⟩
      exact aV
theorem pF (c:Cond) (ht:c.Txt):Sem Tryz.prog 122 [.agg c.row] (.int .i64 c.err):=by
 have h:=zHw c ht 0 0 (by omega) (by omega) (by omega) (by omega)
 unfold Cond.err
 generalize c.chk 0 0=y at h ⊢
 obtain ⟨m,e⟩:=y
 obtain ⟨k,ks,p,vs,lo,hi⟩:=c
 rw [Cond.row_mk] at h ⊢
 dsimp only at h ⊢
 refine si [1000157] func122 ?_
 repeat'((conv=>whnf);first|(try(first|apply eN|apply eI|apply eC);conv=>whnf);apply sD;(focus first|exact gx h|exact bV)|apply rR|apply rE|apply rH| (apply cD<;>intro hb<;>(try simp only[aA]at hb)<;>try exact aM))
 all_goals try exact false
 exact aT
theorem fE (n a b:Int):Sem Tryz.prog 119 [.int .i64 n,.int .i64 a,.int .i64 b] (.bool (decide (a≤n) && decide (n≤b))):=by
 refine si [1000157] func119 ?_
 repeat'((conv=>whnf);first|(try(first|apply eN);conv=>whnf);apply sD;(focus(try intro hc;have hc0:=hc;(try simp only[aA]at hc);try refine aE ?_);first|exact aC)|apply rR|apply rE|apply rH| (apply cD<;>intro hb<;>(try simp only[aA]at hb)<;>try exact aM))
 all_goals try exact false
 exact aT
theorem jB (s:Str) (hs:s.length≤9223372036854775807):Sem Tryz.prog 75 [.str s] (.bool (dJ s)):=by
 have hr:dJ s=(decide (s.length≤1000) && s.all fun c=>decide ((32:Int)≤c.toNat) && decide ((c.toNat:Int)≤126)):=rfl
 generalize dJ s=r at hr ⊢
 refine si [1000157] func75 ?_
 repeat'((conv=>whnf);first|(try(first|apply eN|apply eT|apply eC);conv=>whnf);apply sD;(focus(try intro hc;have hc0:=hc;(try simp only[aA]at hc);try refine aE ?_);first|exact aC)|apply rR|apply rE|apply rH| (apply cD<;>intro hb<;>(try simp only[aA]at hb)<;>try exact aM))
 all_goals try exact false
 refine aL (M:=fun t=>gF t [1000157]) hT hM (fun k:Nat => [(3,.int .i64 k)]) (fun k=>k≤s.length∧((s.take k).all fun c=>decide ((32:Int)≤c.toNat) && decide ((c.toNat:Int)≤126))=true) (fun k=>s.length - k) (0) ?_ ?_ ?_
 ·exact aV
 ·exact ⟨by omega,rfl⟩
 ·rintro k ⟨hk,hall⟩
  cases hx:s[k]? with
  |none=>
   have hn:=List.getElem?_eq_none_iff.1 hx
   rw [List.take_of_length_le hn] at hall
   repeat'((conv=>whnf);first|(try(first|apply eN|apply eT|apply eC);conv=>whnf);apply sD;(focus(try intro hc;have hc0:=hc;(try simp only[aA]at hc);try refine aE ?_);first|exact aC)|apply rR|apply rE|apply rH| (apply cD<;>intro hb<;>(try simp only[aA]at hb)<;>try exact aM))
   all_goals try exact false
   repeat' ((conv=>whnf);first|exact aI|with_reducible first|apply And.intro|apply oR|apply oN|apply dC)
   all_goals (conv=>whnf)
   refine aS ?_
   rw [hr,hall,Bool.and_true]
   exact decide_eq_decide.2 (by omega)
  |some x=>
   have hlt:=(bC hx)
   repeat'((conv=>whnf);first|(try(first|apply eN|apply eT|apply eC);conv=>whnf);apply sD;(focus(try intro hc;have hc0:=hc;(try simp only[aA]at hc);try refine aE ?_);first|exact aC)|apply rR|apply rE|apply rH| (apply cD<;>intro hb<;>(try simp only[aA]at hb)<;>try exact aM))
   all_goals try exact false
   ·repeat' ((conv=>whnf);first|exact aI|with_reducible first|apply And.intro|apply oR|apply oN|apply dC)
    all_goals (conv=>whnf)
    refine aS (Eq.symm ?_)
    simp [List.getD_eq_getElem?_getD,hx] at hb
    rw [hr,Bool.and_eq_false_iff]
    refine .inr ?_
    rw [List.all_eq_false]
    exact ⟨x,aK hx,by simp;omega⟩
   ·refine ⟨k+1,⟨by omega,?_⟩,by omega,?_⟩
    ·simp [List.getD_eq_getElem?_getD,hx] at hb
     rw [eZ hx,List.all_append,hall]
     simp
     omega
    ·exact aV
def mK (n:Str):List Tb→Nat→Int
 |[],_ => -1
 |t::l,i=>if t.name=n then i else mK n l (i+1)
theorem zKV {n:Str} {l:List Tb} {i:Nat} {t:Tb} (h:l[i]?=some t):mK n (l.drop i) i=if t.name=n then (i:Int) else mK n (l.drop (i+1)) (i+1):=by
 rw [List.drop_eq_getElem_cons (bC h),(List.getElem?_eq_some_iff.1 h).2,mK]
theorem gI (l:List Tb) (n:Str):Sem Tryz.prog 47 [.sl 0 2 (l.map Tb.row),.str n] (.int .i64 (mK n l 0)):=by
 refine gU 0 rfl rfl fun hl => ?_
 rw [List.length_map] at hl
 have hll:(l.map Tb.row).length=l.length:=List.length_map _
 have hr:mK n (l.drop 0) 0=mK n l 0:=rfl
 generalize mK n l 0=r at hr ⊢
 refine si [1000157] func47 ?_
 repeat'((conv=>whnf);first|(try(first|apply eN|apply eI|apply eC);conv=>whnf);apply sD;(focus first|exact bV)|apply rR|apply rE|apply rH| (apply cD<;>intro hb<;>(try simp only[aA]at hb)<;>try exact aM))
 all_goals try exact false
 refine aL (M:=fun t=>gF t [1000157]) hT hM (fun i:Nat => [(5,.int .i64 i)]) (fun i=>i≤l.length∧mK n (l.drop i) i=r) (fun i=>l.length - i) (0) ?_ ?_ ?_
 ·exact aV
 ·exact ⟨Nat.zero_le _,hr⟩
 ·rintro i ⟨hi,hv⟩
  cases hx:l[i]? with
  |none=>
   have hm:=List.getElem?_eq_none_iff.1 hx
   rw [List.drop_of_length_le hm] at hv
   repeat'((conv=>whnf);first|(try(first|apply eN|apply eI|apply eC);conv=>whnf);apply sD;(focus first|exact bV)|apply rR|apply rE|apply rH| (apply cD<;>intro hb<;>(try simp only[aA]at hb)<;>try exact aM))
   all_goals try exact false
   repeat' ((conv=>whnf);first|exact aI|with_reducible first|apply And.intro|apply oR|apply oN|apply dC)
   all_goals (conv=>whnf)
   exact aJ hv
  |some t=>
   have hlt:=(bC hx)
   rw [zKV hx] at hv
   repeat'((conv=>whnf);first|(try(first|apply eN|apply eI|apply eC);conv=>whnf);apply sD;(focus first|(exact aP hx rfl)|exact bV)|apply rR|apply rE|apply rH| (apply cD<;>intro hb<;>(try simp only[aA]at hb)<;>try exact aM))
   all_goals try exact false
   ·rw [if_pos (by simpa using hb)] at hv
    repeat' ((conv=>whnf);first|exact aI|with_reducible first|apply And.intro|apply oR|apply oN|apply dC)
    all_goals (conv=>whnf)
    exact aJ hv
   ·rw [if_neg (by simpa using hb)] at hv
    refine ⟨i+1,⟨by omega,hv⟩,by omega,?_⟩
    exact aV
theorem zHT {l:List Tb} {i:Nat} {t:Tb} (h:l[i]?=some t) (prev:Option Str):jJ prev (l.drop i)=if nG prev t ≠ 0 then nG prev t else jJ (some t.name) (l.drop (i+1)):=by
 rw [List.drop_eq_getElem_cons (bC h),(List.getElem?_eq_some_iff.1 h).2,jJ]
theorem zDT{p:Prop}(h:p:=by first|(refine gx (dE ?_ ?_)<;>exact pre)|(refine gx (jB ?_ ?_)<;>exact pre)):p:=h
theorem nK (l:List Tb) (ht:∀ t ∈ l,t.Txt):Sem Tryz.prog 42 [.sl 0 2 (l.map Tb.row)] (.int .i64 (aW l)):=by
 refine gU 0 rfl rfl fun hl => ?_
 rw [List.length_map] at hl
 have hll:(l.map Tb.row).length=l.length:=List.length_map _
 have he:aW l=if 20 < l.length then 2 else jJ none l:=rfl
 generalize aW l=r at he ⊢
 refine si [1000157] func42 ?_
 repeat'((conv=>whnf);first|(try(first|apply eN|apply eI|apply eC);conv=>whnf);apply sD;(focus(try intro hc;have hc0:=hc;(try simp only[aA]at hc);try refine aE ?_);first|exact zDT|exact aC)|(first|apply dG|apply kB);kernel_rfl|apply rR|apply rE|apply rH| (apply cD<;>intro hb<;>(try simp only[aA]at hb)<;>try exact aM))
 all_goals try exact false
 ·repeat' ((conv=>whnf);first|exact aI|with_reducible first|apply And.intro|apply oR|apply oN|apply dC)
  all_goals (conv=>whnf)
  exact aJ (by rw [he,if_pos (by omega)])
 ·rw [if_neg (by omega)] at he
  refine aL (M:=fun t=>gF t [1000157]) hT hM (fun i:Nat => [(3,.int .i64 i)]) (fun i=>i≤l.length∧jJ (kA l i) (l.drop i)=r) (fun i=>l.length - i) (0) ?_ ?_ ?_
  ·exact aV
  ·exact ⟨Nat.zero_le _,he.symm⟩
  ·rintro i ⟨hi,hv⟩
   cases hx:l[i]? with
   |none=>
    have hm:=List.getElem?_eq_none_iff.1 hx
    rw [List.drop_of_length_le hm] at hv
    repeat'((conv=>whnf);first|(try(first|apply eN|apply eI|apply eC);conv=>whnf);apply sD;(focus(try intro hc;have hc0:=hc;(try simp only[aA]at hc);try refine aE ?_);first|exact zDT|exact aC)|(first|apply dG|apply kB);kernel_rfl|apply rR|apply rE|apply rH| (apply cD<;>intro hb<;>(try simp only[aA]at hb)<;>try exact aM))
    all_goals try exact false
    repeat' ((conv=>whnf);first|exact aI|with_reducible first|apply And.intro|apply oR|apply oN|apply dC)
    all_goals (conv=>whnf)
    exact aJ hv
   |some t=>
    have hlt:=(bC hx)
    rw [zHT hx] at hv
    have htt:=ht t (aK hx)
    obtain ⟨n,rows⟩:=t
    have h1:=dE n htt.name
    have hte:nG (kA l i) ⟨n,rows⟩=if aR n=false then 5 else if fI (kA l i) n=true then 8 else if 500 < rows.length then 2 else eH none rows:=rfl
    generalize nG (kA l i) ⟨n,rows⟩=e at hte hv
    obtain ⟨q,hq,hpq⟩:=zFz l i n (by omega)
    rw [hpq] at hte
    generalize aR n=b1 at h1 hte
    repeat'((conv=>whnf);first|(try(first|apply eN|apply eI|apply eC);conv=>whnf);apply sD;(focus(try intro hc;have hc0:=hc;(try simp only[aA]at hc);try refine aE ?_);first|exact gx h1|exact zDT|(exact aP hx rfl)|(exact aP (hq (by omega)) (by omega))|exact aC)|(first|apply dG|apply kB);kernel_rfl|apply rR|apply rE|apply rH| (apply cD<;>intro hb<;>(try simp only[aA]at hb)<;>try exact aM))
    all_goals try exact false
    ·rw [if_pos (by simpa using hb)] at hte
     rw [hte,if_pos (by decide)] at hv
     repeat' ((conv=>whnf);first|exact aI|with_reducible first|apply And.intro|apply oR|apply oN|apply dC)
     all_goals (conv=>whnf)
     exact aJ hv
    ·rw [if_neg (by simp_all),if_pos (by simp_all)] at hte
     rw [hte,if_pos (by decide)] at hv
     repeat' ((conv=>whnf);first|exact aI|with_reducible first|apply And.intro|apply oR|apply oN|apply dC)
     all_goals (conv=>whnf)
     exact aJ hv
    ·rw [if_neg (by simp_all),if_neg (tY (by assumption)),if_pos (by omega)] at hte
     rw [hte,if_pos (by decide)] at hv
     repeat' ((conv=>whnf);first|exact aI|with_reducible first|apply And.intro|apply oR|apply oN|apply dC)
     all_goals (conv=>whnf)
     exact aJ hv
    ·rw [if_neg (by simp_all),if_neg (tY (by assumption)),if_neg (by omega)] at hte
     clear hpq hq
     refine aL (M:=fun t=>gF t [1000157]) hT hM (fun k:Nat => [(5,.int .i64 k)]) (fun k=>k≤rows.length∧eH (xZ rows k) (rows.drop k)=e) (fun k=>rows.length - k) (0) ?_ ?_ ?_
     ·exact aV
     ·exact ⟨Nat.zero_le _,hte.symm⟩
     ·rintro k ⟨hk,hw⟩
      cases hx2:rows[k]? with
      |none=>
       have hm:=List.getElem?_eq_none_iff.1 hx2
       rw [List.drop_of_length_le hm,eH] at hw
       rw [← hw,if_neg (by simp)] at hv
       repeat'((conv=>whnf);first|(try(first|apply eN|apply eI|apply eC);conv=>whnf);apply sD;(focus(try intro hc;have hc0:=hc;(try simp only[aA]at hc);try refine aE ?_);first|exact zDT|exact aC)|(first|apply dG|apply kB);kernel_rfl|apply rR|apply rE|apply rH| (apply cD<;>intro hb<;>(try simp only[aA]at hb)<;>try exact aM))
       all_goals try exact false
       refine ⟨i+1,⟨by omega,by rw [xX hx];exact hv⟩,by omega,?_⟩
       exact aV
      |some r=>
       have hkl:=(bC hx2)
       rw [zFw hx2,zAR] at hw
       obtain ⟨q2,hq2,hp2⟩:=zFA rows k r.1 (by omega)
       rw [hp2] at hw
       have ht1:=jB r.1 (htt.rows r (aK hx2)).1
       have ht2:=jB r.2 (htt.rows r (aK hx2)).2
       have e1:zAs r.1=(r.1 == [] || !dJ r.1):=rfl
       have e2:zAs r.2=(r.2 == [] || !dJ r.2):=rfl
       generalize zAs r.1=z1 at e1 hw
       generalize zAs r.2=z2 at e2 hw
       generalize dJ r.1=x1 at ht1 e1
       generalize dJ r.2=x2 at ht2 e2
       repeat'((conv=>whnf);first|(try(first|apply eN|apply eI|apply eC);conv=>whnf);apply sD;(focus(try intro hc;have hc0:=hc;(try simp only[aA]at hc);try refine aE ?_);first|exact gx ht1|exact gx ht2|exact zDT|(exact aP hx2 rfl)|(exact aP (hq2 (by omega)) (by omega))|exact aC)|(first|apply dG|apply kB);kernel_rfl|apply rR|apply rE|apply rH| (apply cD<;>intro hb<;>(try simp only[aA]at hb)<;>try exact aM))
       all_goals try exact false
       ·have hz:z1=true∨z2=true:=by
         rw [e1,e2]
         rcases hb with ((h|h)|h)|h<;>simp [h]
        have he3:e=3:=by
         rw [← hw]
         rcases hz with hz|hz
         ·simp [hz]
         ·simp [hz]
        rw [he3,if_pos (by decide)] at hv
        repeat' ((conv=>whnf);first|exact aI|with_reducible first|apply And.intro|apply oR|apply oN|apply dC)
        all_goals (conv=>whnf)
        exact aJ hv
       ·rename_i hc
        have hz1:z1=false:=by rw [e1];simp [hc]
        have hz2:z2=false:=by rw [e2];simp [hc]
        have hz:(decide (0 < (k:Int)) && (Op.bytesLess r.1 q2.1 || r.1 == q2.1))=true:=by simpa using hb
        rw [hz1,hz2,hz] at hw
        have he8:e=8:=by rw [← hw];rfl
        rw [he8,if_pos (by decide)] at hv
        repeat' ((conv=>whnf);first|exact aI|with_reducible first|apply And.intro|apply oR|apply oN|apply dC)
        all_goals (conv=>whnf)
        exact aJ hv
       ·rename_i hc
        have hz1:z1=false:=by rw [e1];simp [hc]
        have hz2:z2=false:=by rw [e2];simp [hc]
        rw [hz1,hz2,if_neg (by rw [if_neg (by decide),if_neg (by decide),if_neg (tY hb)];simp)] at hw
        refine ⟨k+1,⟨by omega,by rw [xY hx2];exact hw⟩,by omega,?_⟩
        exact aV
theorem zCk (n:Str):∀ (l:List Tb) (i:Nat),-1≤mK n l i∧(mK n l i < 0↔iD l n=false)
 |[],i=>by simp [mK,iD]
 |t::l,i=>by
  unfold mK
  obtain ⟨h1,h2⟩:=zCk n l (i+1)
  have e:iD (t::l) n=((t.name == n) || iD l n):=rfl
  rw [e]
  by_cases h:t.name=n
  ·rw [if_pos h]
   simp [h]
  ·rw [if_neg h]
   have hb:(t.name == n)=false:=by simpa using h
   rw [hb,Bool.false_or]
   exact ⟨h1,h2⟩
theorem pE (nm:Str) (tbs:List Tb) (rows:List (List D)) (f:Fld) (hf:f.Txt):Sem Tryz.prog 168 [.agg [.str nm,.sl 0 2 (tbs.map Tb.row),.sl 0 12 rows],.agg f.vl.row] (.int .i64 (eF tbs f)):=by
 have h1:=jB f.text hf.text
 have h2:=hU f.path
 have h3:=gI tbs f.table
 have h4:=fE f.kind 1 5
 obtain ⟨g1,g2⟩:=zCk f.table tbs 0
 have hr:eF tbs f=if f.kind < 1∨5 < f.kind then 4
  else if (f.kind ≠ 1∧f.kind ≠ 3∧f.text ≠ [])∨(f.kind=1∧f.path ≠ [])∨(f.kind ≠ 3∧f.table ≠ []) then 3
  else if dJ f.text=false∨(f.kind=1∧f.text = []) then 3
  else if f.kind=1 then 0
  else if bW f.path ≠ 0 then bW f.path
  else if f.kind=3∧iD tbs f.table=false then 9 else 0:=rfl
 generalize eF tbs f=r at hr ⊢
 generalize iD tbs f.table=b3 at g2 hr
 generalize mK f.table tbs 0=ix at g1 g2 h3
 generalize dJ f.text=b1 at h1 hr
 generalize bW f.path=e2 at h2 hr
 unfold Fld.vl MVal.row
 obtain ⟨fe,fp,k,tx,pa,ta⟩:=f
 dsimp only at *
 refine si [1000157] func168 ?_
 repeat'((conv=>whnf);first|(try(first|apply eN|apply eI|apply eC);conv=>whnf);apply sD;(focus(try intro hc;have hc0:=hc;(try simp only[aA]at hc);try refine aE ?_);first|exact gx h1|exact gx h2|exact gx h3|exact gx h4|(refine gx (fE ?_ ?_ ?_)<;>exact pre)|(refine gx (jB ?_ ?_)<;>exact pre)|(refine gx (hU ?_)<;>exact pre)|(refine gx (gI ?_ ?_)<;>exact pre)|exact aC)|apply rR|apply rE|apply rH| (apply cD<;>intro hb<;>(try simp only[aA]at hb)<;>try exact aM))
 all_goals try exact false
 all_goals (
  repeat' ((conv=>whnf);first|exact aI|with_reducible first|apply And.intro|apply oR|apply oN|apply dC)
  all_goals (conv=>whnf)
  refine aJ ?_
  rw [hr]
  clear h1 h2 h3 h4 hr hf
  repeat' split
  all_goals first|omega|rfl|(simp_all;done)|(simp_all;omega)|grind)
theorem zGx (tbs:List Tb) (ht:aW tbs=0) (s:MStep):s.Txt→zGi tbs s:=by
 induction s using MStep.ind with
 |h k t fs n o c ss ih=>
  intro h
  cases h with
  |mk h1 h2 h3 h4 h5 h6=>exact zKX tbs ht k t fs n o c ss h1 h3 (zFK tbs ss fun s hs=>ih s hs (h6 s hs))
theorem zKx{p:Prop}(h:p:=by first|(refine gx (fQ ?_ ?_)<;>exact pre)|(refine gx (nQ ?_ ?_ ?_ ?_ ?_ ?_)<;>exact pre)):p:=h
theorem fU (m:Mp) (ht:m.Txt):Sem Tryz.prog 11 [.agg m.row] (.int .i64 m.err):=by
 obtain ⟨nm,tbs,steps⟩:=m
 have htn:=ht.name
 have htt:=ht.tables
 have hts:=ht.steps
 dsimp only at htn htt hts
 have h1:=fQ nm htn
 have hr:Mp.err ⟨nm,tbs,steps⟩=if aR nm=false then 5 else if aW tbs ≠ 0 then aW tbs else if (MStep.chks tbs steps 0 0).2 ≠ 0 then (MStep.chks tbs steps 0 0).2 else if steps.length=0 then 9 else 0:=rfl
 have hte:aW tbs=if 20 < tbs.length then 2 else jJ none tbs:=rfl
 have hl:aW tbs=0→zGl tbs steps:=fun h=>zFK tbs steps fun s hs=>zGx tbs h s (hts s hs)
 have hlp:aW tbs=0→SemO Tryz.prog 35 (.obj [.sl 0 2 (tbs.map Tb.row),.int .i64 0]) [.sl 0 12 (steps.map MStep.row),.int .i64 0] (.int .i64 (MStep.chks tbs steps 0 0).2) (some (.obj [.sl 0 2 (tbs.map Tb.row),.int .i64 (MStep.chks tbs steps 0 0).1])):=fun h=>hl h 0 0 (by omega) (by omega) (by omega) (by omega)
 clear hl
 generalize Mp.err ⟨nm,tbs,steps⟩=r at hr ⊢
 generalize aR nm=b1 at h1 hr
 generalize MStep.chks tbs steps 0 0=y at hr hlp
 obtain ⟨y1,y2⟩:=y
 dsimp only at hr hlp
 generalize aW tbs=te at hr hte hlp
 unfold Mp.row
 dsimp only
 have hll:(tbs.map Tb.row).length=tbs.length:=List.length_map _
 have hls:(steps.map MStep.row).length=steps.length:=List.length_map _
 refine si [31,1000035,1000069,1000157] func11 ?_
 repeat'((conv=>whnf);first|(try(first|apply eN|apply eI|apply eC);conv=>whnf);apply sD;(focus first|exact gx h1|exact zKx|exact bV)|((with_reducible apply CallO.go);(conv=>whnf);apply sD;(focus first|(apply aU (zC8 _ _ _ _ _ _ _ _ _);all_goals exact eX)))|apply rR|apply rE|apply rH| (apply cD<;>intro hb<;>(try simp only[aA]at hb)<;>try exact aM))
 all_goals try exact false
 ·repeat' ((conv=>whnf);first|exact aI|with_reducible first|apply And.intro|apply oR|apply oN|apply dC)
  all_goals (conv=>whnf)
  exact aJ (by rw [hr,if_pos (by simpa using hb)])
 ·rw [if_pos (by omega)] at hte
  repeat' ((conv=>whnf);first|exact aI|with_reducible first|apply And.intro|apply oR|apply oN|apply dC)
  all_goals (conv=>whnf)
  exact aJ (by rw [hr,if_neg (by simp_all),if_pos (by omega),hte])
 ·rw [if_neg (by omega)] at hte
  rw [if_neg (by simp_all)] at hr
  refine aL (M:=fun t=>gF t [31,1000035,1000069,1000157]) hT hM (fun i:Nat => [(17,.int .i64 i)]) (fun i=>i≤tbs.length∧jJ (kA tbs i) (tbs.drop i)=te) (fun i=>tbs.length - i) (0) ?_ ?_ ?_
  ·exact aV
  ·exact ⟨Nat.zero_le _,hte.symm⟩
  ·rintro i ⟨hi,hv⟩
   cases hx:tbs[i]? with
   |none=>
    have hm:=List.getElem?_eq_none_iff.1 hx
    rw [List.drop_of_length_le hm,jJ] at hv
    subst hv
    have h2:=hlp rfl
    rw [if_neg (by simp)] at hr
    clear hlp hte
    repeat'((conv=>whnf);first|(try(first|apply eN|apply eI|apply eC);conv=>whnf);apply sD;(focus first|exact zKx|exact bV)|((with_reducible apply CallO.go);(conv=>whnf);apply sD;(focus first|(apply aU (h2);all_goals exact eX)))|apply rR|apply rE|apply rH| (apply cD<;>intro hb<;>(try simp only[aA]at hb)<;>try exact aM))
    all_goals try exact false
    ·repeat' ((conv=>whnf);first|exact aI|with_reducible first|apply And.intro|apply oR|apply oN|apply dC)
     all_goals (conv=>whnf)
     exact aJ (by rw [hr,if_pos hb])
    ·repeat' ((conv=>whnf);first|exact aI|with_reducible first|apply And.intro|apply oR|apply oN|apply dC)
     all_goals (conv=>whnf)
     exact aJ (by rw [hr,if_neg (by omega),if_pos (by omega)])
    ·repeat' ((conv=>whnf);first|exact aI|with_reducible first|apply And.intro|apply oR|apply oN|apply dC)
     all_goals (conv=>whnf)
     exact aJ (by rw [hr,if_neg (by omega),if_neg (by omega)])
   |some t=>
    have hlt:=(bC hx)
    rw [zHT hx] at hv
    have h2:=nQ tbs i t hx (by omega) (htt t (aK hx)).name
    generalize nG (kA tbs i) t=e at hv h2
    repeat'((conv=>whnf);first|(try(first|apply eN|apply eI|apply eC);conv=>whnf);apply sD;(focus first|exact gx h2|exact zKx|exact bV)|((with_reducible apply CallO.go);(conv=>whnf);apply sD;(focus first|(apply aU (zC8 _ _ _ _ _ _ _ _ _);all_goals exact eX)))|apply rR|apply rE|apply rH| (apply cD<;>intro hb<;>(try simp only[aA]at hb)<;>try exact aM))
    all_goals try exact false
    ·rw [if_pos (by omega)] at hv
     subst hv
     repeat' ((conv=>whnf);first|exact aI|with_reducible first|apply And.intro|apply oR|apply oN|apply dC)
     all_goals (conv=>whnf)
     exact aJ (by rw [hr,if_pos (by omega)])
    ·rw [if_neg (by omega)] at hv
     refine ⟨i+1,⟨by omega,by rw [xX hx];exact hv⟩,by omega,?_⟩
     exact aV
theorem zFe{p:Prop}(h:p:=by first|(refine gx (fE ?_ ?_ ?_)<;>exact pre)|(refine gx (pE ?_ ?_ ?_ ?_ ?_)<;>exact pre)):p:=h
theorem wK (nm:Str) (tbs:List Tb) (rows:List (List D)) (fs:List Fld) (hf:∀ f ∈ fs,f.Txt):Sem Tryz.prog 121 [.agg [.str nm,.sl 0 2 (tbs.map Tb.row),.sl 0 12 rows],.sl 0 6 (fs.map Fld.row)] (.int .i64 (if fs.length=0 then 9 else if 30 < fs.length then 2 else eM tbs none fs)):=by
 obtain ⟨r,hr⟩:∃ r,r=if fs.length=0 then (9:Int) else if 30 < fs.length then 2 else eM tbs none fs:=⟨_,rfl⟩
 rw [← hr]
 have hll:(fs.map Fld.row).length=fs.length:=List.length_map _
 refine si [1000157] func121 ?_
 repeat'((conv=>whnf);first|(try(first|apply eN|apply eI|apply eC);conv=>whnf);apply sD;(focus(try intro hc;have hc0:=hc;(try simp only[aA]at hc);try refine aE ?_);first|exact zFe|exact aC)|(first|apply dG|apply kB);kernel_rfl|apply rR|apply rE|apply rH| (apply cD<;>intro hb<;>(try simp only[aA]at hb)<;>try exact aM))
 all_goals try exact false
 ·repeat' ((conv=>whnf);first|exact aI|with_reducible first|apply And.intro|apply oR|apply oN|apply dC)
  all_goals (conv=>whnf)
  exact aJ (by rw [hr,if_pos (by omega)])
 ·repeat' ((conv=>whnf);first|exact aI|with_reducible first|apply And.intro|apply oR|apply oN|apply dC)
  all_goals (conv=>whnf)
  exact aJ (by rw [hr,if_neg (by omega),if_pos (by omega)])
 ·rw [if_neg (by omega),if_neg (by omega)] at hr
  refine aL (M:=fun t=>gF t [1000157]) hT hM (fun i:Nat => [(5,.int .i64 i)]) (fun i=>i≤fs.length∧eM tbs (fW fs i) (fs.drop i)=r) (fun i=>fs.length - i) (0) ?_ ?_ ?_
  ·exact aV
  ·exact ⟨Nat.zero_le _,hr.symm⟩
  ·rintro i ⟨hi,hv⟩
   cases hx:fs[i]? with
   |none=>
    have hm:=List.getElem?_eq_none_iff.1 hx
    rw [List.drop_of_length_le hm] at hv
    repeat'((conv=>whnf);first|(try(first|apply eN|apply eI|apply eC);conv=>whnf);apply sD;(focus(try intro hc;have hc0:=hc;(try simp only[aA]at hc);try refine aE ?_);first|exact zFe|exact aC)|(first|apply dG|apply kB);kernel_rfl|apply rR|apply rE|apply rH| (apply cD<;>intro hb<;>(try simp only[aA]at hb)<;>try exact aM))
    all_goals try exact false
    repeat' ((conv=>whnf);first|exact aI|with_reducible first|apply And.intro|apply oR|apply oN|apply dC)
    all_goals (conv=>whnf)
    exact aJ hv
   |some f=>
    have hlt:=(bC hx)
    rw [zF4 hx] at hv
    have h2:=pE nm tbs rows f (hf f (aK hx))
    have h3:=fE f.el 1 50
    have h4:=fE f.pt 1 20
    unfold Fld.vl MVal.row at h2
    obtain ⟨q,hq⟩:∃ q:Fld,0 < i→fs[i - 1]?=some q∧fW fs i=some q:=by
     by_cases h0:i=0
     ·exact ⟨⟨1,1,0,[],[],[]⟩,fun h=>by omega⟩
     ·have he:fs[i - 1]?=some (fs[i - 1]'(by omega)):=List.getElem?_eq_getElem (by omega)
      have hpf:fW fs i=some (fs[i - 1]'(by omega)):=by unfold fW;rw [if_neg h0,he]
      exact ⟨_,fun _=>⟨he,hpf⟩⟩
    have hfe:lM tbs (fW fs i) f=if f.el < 1∨50 < f.el∨f.pt < 1∨20 < f.pt then 1 else if eB (fW fs i) f=false then 8 else eF tbs f:=rfl
    generalize lM tbs (fW fs i) f=e at hfe hv
    generalize eF tbs f=e2 at h2 hfe
    have hbq:eB (some q) f=(decide (q.el < f.el) || (decide (q.el=f.el) && decide (q.pt < f.pt))):=rfl
    repeat'((conv=>whnf);first|(try(first|apply eN|apply eI|apply eC);conv=>whnf);apply sD;(focus(try intro hc;have hc0:=hc;(try simp only[aA]at hc);try refine aE ?_);first|(exact jR hx (by omega))|(exact jR (hq (by omega)).1 (by omega))|exact gx h2|exact gx h3|exact gx h4|exact zFe|exact aC)|(first|apply dG|apply kB);kernel_rfl|apply rR|apply rE|apply rH| (apply cD<;>intro hb<;>(try simp only[aA]at hb)<;>try exact aM))
    all_goals try exact false
    ·rw [if_pos (by omega)] at hfe
     rw [hfe,if_pos (by decide)] at hv
     repeat' ((conv=>whnf);first|exact aI|with_reducible first|apply And.intro|apply oR|apply oN|apply dC)
     all_goals (conv=>whnf)
     exact aJ hv
    ·have hbf:eB (fW fs i) f=false:=by
      rw [(hq (by omega)).2,hbq]
      simp only [Bool.or_eq_false_iff,decide_eq_false_iff_not,Bool.and_eq_false_iff]
      omega
     rw [if_neg (by omega),if_pos hbf] at hfe
     rw [hfe,if_pos (by decide)] at hv
     repeat' ((conv=>whnf);first|exact aI|with_reducible first|apply And.intro|apply oR|apply oN|apply dC)
     all_goals (conv=>whnf)
     exact aJ hv
    all_goals
     have hbf:¬ eB (fW fs i) f=false:=by
      by_cases h0:i=0
      ·subst h0;simp [fW,eB]
      ·rw [(hq (by omega)).2,hbq]
       simp only [Bool.or_eq_false_iff,decide_eq_false_iff_not,Bool.and_eq_false_iff]
       omega
     rw [if_neg (by omega),if_neg hbf] at hfe
    ·rw [hfe,if_pos (by omega)] at hv
     repeat' ((conv=>whnf);first|exact aI|with_reducible first|apply And.intro|apply oR|apply oN|apply dC)
     all_goals (conv=>whnf)
     exact aJ hv
    ·rw [hfe,if_neg (by omega)] at hv
     refine ⟨i+1,⟨by omega,by rw [qW hx];exact hv⟩,by omega,?_⟩
     exact aV
end Go.Proofs.YtnjgoldinaffgaaGreatDoor
