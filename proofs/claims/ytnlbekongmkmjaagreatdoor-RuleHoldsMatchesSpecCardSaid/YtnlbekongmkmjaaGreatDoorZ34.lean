/- What conditions say of trees: the reference (walks). -/
import Derived.Test.YtnlbekongmkmjaaGreatDoorZ33
import Derived.Test.YtnlbekongmkmjaaGreatDoorZ29
import Derived.Test.YtnlbekongmkmjaaGreatDoorZ31
namespace Go.Proofs.YtnlbekongmkmjaaGreatDoor
set_option linter.unusedSimpArgs false
set_option linter.unusedVariables false
open Go.RowKit
set_option maxRecDepth 100000
set_option maxHeartbeats 4000000
def CmpOk:Prop:=∀ u p v:Int,u.natAbs≤1000000000000000→0≤p→p≤9→v.natAbs≤1000000000000000→Sem Tryz.prog 106 [.agg [.int .i64 u,.int .i64 p],.agg [.int .i64 v,.int .i64 0]] (.tup [.int .i64 (sgn (u * 10 ^ (9 - p).toNat - v * 1000000000)),.int .i64 0])
theorem numberWithin4_of (hC:CmpOk) (s:Str) (lo hi:Int) (hs:s.length≤1000) (hlo:lo.natAbs≤1000000000000) (hhi:hi.natAbs≤1000000000000):Sem Tryz.prog 67 [.str s,.int .i64 lo,.int .i64 hi] (.bool (withinB s lo hi)):=by
 have h1:=readText1_sem s hs
 have hpl:=decN_places s
 have hr:withinB s lo hi=(decide ((decN s).2.2=0) && decide (lo * 1000000000≤(decN s).1 * 10 ^ (9 - (decN s).2.1).toNat) && decide ((decN s).1 * 10 ^ (9 - (decN s).2.1).toNat≤hi * 1000000000)):=rfl
 generalize withinB s lo hi=r at hr ⊢
 generalize decN s=d at h1 hpl hr
 obtain ⟨u,p,e⟩:=d
 dsimp only at h1 hpl hr
 by_cases he:e=0
 ·obtain ⟨p1,p2,p3,p4⟩:=hpl he
  subst he
  have h2:=hC u p lo (by omega) p1 p2 (by omega)
  have h3:=hC u p hi (by omega) p1 p2 (by omega)
  generalize u * 10 ^ (9 - p).toNat=v at *
  have q1:=(sgn_ge (v - lo * 1000000000)).1
  have q2:=(sgn_ge (v - hi * 1000000000)).2
  generalize sgn (v - lo * 1000000000)=c1 at h2 q1
  generalize sgn (v - hi * 1000000000)=c2 at h3 q2
  clear hC hpl
  refine si [7,2000007,1000021,1000034,1000044,1000045,1000084] Tryz.func67 ?_
  repeat'((conv=>whnf);first|(try(first|apply eN|apply eI|apply eC);conv=>whnf);apply sD;(focus(try intro hc;have hc0:=hc;(try simp only[SPLT]at hc);try refine and0 ?_);first|exact gx h1|exact gx h2|exact gx h3|(refine gx (readText1_sem ?_ ?_)<;>exact pre)|exact sideG)|apply rR|apply rE|apply rH|(apply cD<;>intro hb<;>(try simp only[SPLT]at hb)<;>try exact noB))
  all_goals try exact false
  repeat' ((conv=>whnf);first|exact endR|with_reducible first|apply And.intro|apply oR|apply oN|apply dC)
  all_goals (conv=>whnf)
  refine rle_bool ?_
  rw [hr,Bool.eq_iff_iff]
  simp only [Bool.and_eq_true,decide_eq_true_eq]
  constructor
  ·rintro ⟨g1,g2⟩
   exact ⟨⟨trivial,by omega⟩,by omega⟩
  ·rintro ⟨⟨_,g1⟩,g2⟩
   exact ⟨by omega,by omega⟩
 ·rw [decide_eq_false he,Bool.false_and,Bool.false_and] at hr
  subst hr
  refine si [7,2000007,1000021,1000034,1000044,1000045,1000084] Tryz.func67 ?_
  repeat'((conv=>whnf);first|(try(first|apply eN|apply eI|apply eC);conv=>whnf);apply sD;(focus(try intro hc;have hc0:=hc;(try simp only[SPLT]at hc);try refine and0 ?_);first|exact gx h1|(refine gx (readText1_sem ?_ ?_)<;>exact pre)|exact sideG)|apply rR|apply rE|apply rH|(apply cD<;>intro hb<;>(try simp only[SPLT]at hb)<;>try exact noB))
  all_goals try exact false
  exact finR
theorem all_at {α:Type} {l:List α} {i:Nat} {x:α} (q:α→Bool) (h:l[i]?=some x):(l.drop i).all q=(q x && (l.drop (i+1)).all q):=by
 rw [List.drop_eq_getElem_cons (gLt h),(List.getElem?_eq_some_iff.1 h).2,List.all_cons]
theorem any_at {α:Type} {l:List α} {i:Nat} {x:α} (q:α→Bool) (h:l[i]?=some x):(l.drop i).any q=(q x || (l.drop (i+1)).any q):=by
 rw [List.drop_eq_getElem_cons (gLt h),(List.getElem?_eq_some_iff.1 h).2,List.any_cons]
theorem holdsOf4_of (hC:CmpOk) (c:Cond):c.HOk→c.ROk→∀ t,TreeOk t→Sem Tryz.prog 30 [.agg c.row,.sl 0 4 (t.map Br.row)] (.bool (c.holds t)):=by
 induction c using Cond.ind with
 |h k ks p vs lo hi ih=>
  rintro ⟨h3,hp,hlo,hhi,hk⟩ ⟨r1,r9,rg,rp,rk⟩ t ht
  have ih':∀ x ∈ ks,∀ t,TreeOk t→Sem Tryz.prog 30 [.agg x.row,.sl 0 4 (t.map Br.row)] (.bool (x.holds t)):=fun x hx=>ih x hx (hk x hx) (rk x hx)
  have hkl:(ks.map Cond.row).length=ks.length:=List.length_map _
  rw [holds_mk,holdsA_all,holdsO_any,Cond.row_mk]
  by_cases k1:k=1
  ·subst k1
   rw [if_pos rfl]
   have ih2:=fun x hx=>ih' x hx t ht
   generalize hr:(ks.all fun x=>x.holds t)=r
   clear ih ih' h3 rg rp hk rk
   refine sem_lenA 0 1 rfl rfl rfl fun hl => ?_
   refine si [11,2000011,1000021,1000034,1000044,1000045,1000084] Tryz.func30 ?_
   repeat'((conv=>whnf);first|(try(first|apply eN|apply eI|apply eC);conv=>whnf);apply sD;(focus(try intro hc;have hc0:=hc;(try simp only[SPLT]at hc);try refine and0 ?_);first|(refine gx (NamesOf_sem ?_)<;>exact pre)|(refine gx (pathOf_sem ?_)<;>exact pre)|(refine gx (findIn_sem ?_ ?_ ?_ ?_ ?_ ?_ ?_ ?_ ?_ ?_ ?_)<;>exact pre)|(refine gx (within_sem ?_ ?_ ?_)<;>exact pre)|(refine gx (has4_sem ?_ ?_)<;>exact pre)|(refine gx (numberWithin4_of ?_ ?_ ?_ ?_ ?_ ?_ ?_)<;>exact pre)|exact sideG)|(first|apply dG|apply kB);kernel_rfl|apply rR|apply rE|apply rH|(apply cD<;>intro hb<;>(try simp only[SPLT]at hb)<;>try exact noB))
   all_goals try exact false
   refine loop_go (M:=fun t=>mem t [11,2000011,1000021,1000034,1000044,1000045,1000084]) hT hM (fun i:Nat => [(5,.int .i64 i)]) (fun i=>i≤ks.length∧((ks.drop i).all fun x=>x.holds t)=r) (fun i=>ks.length - i) (0) ?_ ?_ ?_
   ·exact finF
   ·exact ⟨Nat.zero_le _,hr⟩
   ·rintro i ⟨hi,hv⟩
    cases hx:ks[i]? with
    |none=>
     have hm:=List.getElem?_eq_none_iff.1 hx
     rw [List.drop_of_length_le hm] at hv
     repeat'((conv=>whnf);first|(try(first|apply eN|apply eI|apply eC);conv=>whnf);apply sD;(focus(try intro hc;have hc0:=hc;(try simp only[SPLT]at hc);try refine and0 ?_);first|(refine gx (NamesOf_sem ?_)<;>exact pre)|(refine gx (pathOf_sem ?_)<;>exact pre)|(refine gx (findIn_sem ?_ ?_ ?_ ?_ ?_ ?_ ?_ ?_ ?_ ?_ ?_)<;>exact pre)|(refine gx (within_sem ?_ ?_ ?_)<;>exact pre)|(refine gx (has4_sem ?_ ?_)<;>exact pre)|(refine gx (numberWithin4_of ?_ ?_ ?_ ?_ ?_ ?_ ?_)<;>exact pre)|exact sideG)|(first|apply dG|apply kB);kernel_rfl|apply rR|apply rE|apply rH|(apply cD<;>intro hb<;>(try simp only[SPLT]at hb)<;>try exact noB))
     all_goals try exact false
     repeat' ((conv=>whnf);first|exact endR|with_reducible first|apply And.intro|apply oR|apply oN|apply dC)
     all_goals (conv=>whnf)
     exact rle_bool hv
    |some x=>
     have hlt:=(gLt hx)
     have h1:=ih2 x (gMem hx)
     rw [all_at _ hx] at hv
     generalize x.holds t=b at h1 hv
     obtain ⟨kx,ksx,px,vsx,lox,hix⟩:=x
     rw [Cond.row_mk] at h1
     clear ih2
     repeat'((conv=>whnf);first|(try(first|apply eN|apply eI|apply eC);conv=>whnf);apply sD;(focus(try intro hc;have hc0:=hc;(try simp only[SPLT]at hc);try refine and0 ?_);first|(exact idx_row hx rfl)|exact gx h1|(refine gx (NamesOf_sem ?_)<;>exact pre)|(refine gx (pathOf_sem ?_)<;>exact pre)|(refine gx (findIn_sem ?_ ?_ ?_ ?_ ?_ ?_ ?_ ?_ ?_ ?_ ?_)<;>exact pre)|(refine gx (within_sem ?_ ?_ ?_)<;>exact pre)|(refine gx (has4_sem ?_ ?_)<;>exact pre)|(refine gx (numberWithin4_of ?_ ?_ ?_ ?_ ?_ ?_ ?_)<;>exact pre)|exact sideG)|(first|apply dG|apply kB);kernel_rfl|apply rR|apply rE|apply rH|(apply cD<;>intro hb<;>(try simp only[SPLT]at hb)<;>try exact noB))
     all_goals try exact false
     ·subst hb
      repeat' ((conv=>whnf);first|exact endR|with_reducible first|apply And.intro|apply oR|apply oN|apply dC)
      all_goals (conv=>whnf)
      exact rle_bool hv
     ·subst hb
      refine ⟨i+1,⟨by omega,hv⟩,by omega,?_⟩
      exact finF
  ·rw [if_neg k1]
   by_cases k2:k=2
   ·subst k2
    rw [if_pos rfl]
    have ih2:=fun x hx=>ih' x hx t ht
    generalize hr:(ks.any fun x=>x.holds t)=r
    clear ih ih' h3 rg rp hk rk
    refine sem_lenA 0 1 rfl rfl rfl fun hl => ?_
    refine si [11,2000011,1000021,1000034,1000044,1000045,1000084] Tryz.func30 ?_
    repeat'((conv=>whnf);first|(try(first|apply eN|apply eI|apply eC);conv=>whnf);apply sD;(focus(try intro hc;have hc0:=hc;(try simp only[SPLT]at hc);try refine and0 ?_);first|(refine gx (NamesOf_sem ?_)<;>exact pre)|(refine gx (pathOf_sem ?_)<;>exact pre)|(refine gx (findIn_sem ?_ ?_ ?_ ?_ ?_ ?_ ?_ ?_ ?_ ?_ ?_)<;>exact pre)|(refine gx (within_sem ?_ ?_ ?_)<;>exact pre)|(refine gx (has4_sem ?_ ?_)<;>exact pre)|(refine gx (numberWithin4_of ?_ ?_ ?_ ?_ ?_ ?_ ?_)<;>exact pre)|exact sideG)|(first|apply dG|apply kB);kernel_rfl|apply rR|apply rE|apply rH|(apply cD<;>intro hb<;>(try simp only[SPLT]at hb)<;>try exact noB))
    all_goals try exact false
    refine loop_go (M:=fun t=>mem t [11,2000011,1000021,1000034,1000044,1000045,1000084]) hT hM (fun i:Nat => [(6,.int .i64 i)]) (fun i=>i≤ks.length∧((ks.drop i).any fun x=>x.holds t)=r) (fun i=>ks.length - i) (0) ?_ ?_ ?_
    ·exact finF
    ·exact ⟨Nat.zero_le _,hr⟩
    ·rintro i ⟨hi,hv⟩
     cases hx:ks[i]? with
     |none=>
      have hm:=List.getElem?_eq_none_iff.1 hx
      rw [List.drop_of_length_le hm] at hv
      repeat'((conv=>whnf);first|(try(first|apply eN|apply eI|apply eC);conv=>whnf);apply sD;(focus(try intro hc;have hc0:=hc;(try simp only[SPLT]at hc);try refine and0 ?_);first|(refine gx (NamesOf_sem ?_)<;>exact pre)|(refine gx (pathOf_sem ?_)<;>exact pre)|(refine gx (findIn_sem ?_ ?_ ?_ ?_ ?_ ?_ ?_ ?_ ?_ ?_ ?_)<;>exact pre)|(refine gx (within_sem ?_ ?_ ?_)<;>exact pre)|(refine gx (has4_sem ?_ ?_)<;>exact pre)|(refine gx (numberWithin4_of ?_ ?_ ?_ ?_ ?_ ?_ ?_)<;>exact pre)|exact sideG)|(first|apply dG|apply kB);kernel_rfl|apply rR|apply rE|apply rH|(apply cD<;>intro hb<;>(try simp only[SPLT]at hb)<;>try exact noB))
      all_goals try exact false
      repeat' ((conv=>whnf);first|exact endR|with_reducible first|apply And.intro|apply oR|apply oN|apply dC)
      all_goals (conv=>whnf)
      exact rle_bool hv
     |some x=>
      have hlt:=(gLt hx)
      have h1:=ih2 x (gMem hx)
      rw [any_at _ hx] at hv
      generalize x.holds t=b at h1 hv
      obtain ⟨kx,ksx,px,vsx,lox,hix⟩:=x
      rw [Cond.row_mk] at h1
      clear ih2
      repeat'((conv=>whnf);first|(try(first|apply eN|apply eI|apply eC);conv=>whnf);apply sD;(focus(try intro hc;have hc0:=hc;(try simp only[SPLT]at hc);try refine and0 ?_);first|(exact idx_row hx rfl)|exact gx h1|(refine gx (NamesOf_sem ?_)<;>exact pre)|(refine gx (pathOf_sem ?_)<;>exact pre)|(refine gx (findIn_sem ?_ ?_ ?_ ?_ ?_ ?_ ?_ ?_ ?_ ?_ ?_)<;>exact pre)|(refine gx (within_sem ?_ ?_ ?_)<;>exact pre)|(refine gx (has4_sem ?_ ?_)<;>exact pre)|(refine gx (numberWithin4_of ?_ ?_ ?_ ?_ ?_ ?_ ?_)<;>exact pre)|exact sideG)|(first|apply dG|apply kB);kernel_rfl|apply rR|apply rE|apply rH|(apply cD<;>intro hb<;>(try simp only[SPLT]at hb)<;>try exact noB))
      all_goals try exact false
      ·subst hb
       repeat' ((conv=>whnf);first|exact endR|with_reducible first|apply And.intro|apply oR|apply oN|apply dC)
       all_goals (conv=>whnf)
       exact rle_bool hv
      ·subst hb
       refine ⟨i+1,⟨by omega,hv⟩,by omega,?_⟩
       exact finF
   ·rw [if_neg k2]
    by_cases k3:k=3
    ·subst k3
     obtain ⟨x,rfl⟩:=h3 (.inl rfl)
     rw [if_pos rfl,holdsH_at rfl]
     have h1:=ih' x (by simp) t ht
     generalize x.holds t=r at h1 ⊢
     obtain ⟨kx,ksx,px,vsx,lox,hix⟩:=x
     rw [Cond.row_mk] at h1
     clear ih ih' h3 rg rp hk rk
     refine si [11,2000011,1000021,1000034,1000044,1000045,1000084] Tryz.func30 ?_
     repeat'((conv=>whnf);first|(try(first|apply eN|apply eI|apply eC);conv=>whnf);apply sD;(focus(try intro hc;have hc0:=hc;(try simp only[SPLT]at hc);try refine and0 ?_);first|(exact idx_row (l := [Cond.mk kx ksx px vsx lox hix]) (j:=0) rfl rfl)|exact gx h1|(refine gx (NamesOf_sem ?_)<;>exact pre)|(refine gx (pathOf_sem ?_)<;>exact pre)|(refine gx (findIn_sem ?_ ?_ ?_ ?_ ?_ ?_ ?_ ?_ ?_ ?_ ?_)<;>exact pre)|(refine gx (within_sem ?_ ?_ ?_)<;>exact pre)|(refine gx (has4_sem ?_ ?_)<;>exact pre)|(refine gx (numberWithin4_of ?_ ?_ ?_ ?_ ?_ ?_ ?_)<;>exact pre)|exact sideG)|(first|apply dG|apply kB);kernel_rfl|apply rR|apply rE|apply rH|(apply cD<;>intro hb<;>(try simp only[SPLT]at hb)<;>try exact noB))
     all_goals try exact false
     exact finR
    ·rw [if_neg k3]
     by_cases k78:k=7∨k=8
     ·obtain ⟨x,rfl⟩:=h3 (by omega)
      obtain ⟨n1,n2⟩:=namesN_ok (rg k78)
      have h4:=NamesOf_sem p
      rw [n1] at h4
      have h5:=inside3_sem (namesN p).1 t ht.few
      rw [n2 t] at h5
      have h1:=fun l (hl:l ∈ kidsP p t)=>ih' x (by simp) l (ht.kids hl)
      have hks:(kidsP p t).length≤1000000:=by
       have a1:=lszs_len (kidsP p t)
       have a2:=inside_sz (namesN p).1 t
       rw [n2 t] at a2
       have:=ht.few
       omega
      have hH:(fun l=>Cond.holdsH [x] l)=fun l=>x.holds l:=funext fun l=>holdsH_at rfl l
      rw [hH]
      generalize (namesN p).1=ns at h4 h5
      generalize kidsP p t=kd at h1 h5 hks ⊢
      have hkm:(kd.map klR).length=kd.length:=List.length_map _
      clear ih ih' h3 rg rp hk rk n1 n2 hH
      obtain ⟨kx,ksx,px,vsx,lox,hix⟩:=x
      rw [Cond.row_mk] at h1
      rcases k78 with rfl|rfl
      ·rw [if_pos rfl]
       generalize hr:(kd.all fun l=>(Cond.mk kx ksx px vsx lox hix).holds l)=r
       refine si [11,2000011,1000021,1000034,1000044,1000045,1000084] Tryz.func30 ?_
       repeat'((conv=>whnf);first|(try(first|apply eN|apply eI|apply eC);conv=>whnf);apply sD;(focus(try intro hc;have hc0:=hc;(try simp only[SPLT]at hc);try refine and0 ?_);first|exact gx h4|exact gx h5|(refine gx (NamesOf_sem ?_)<;>exact pre)|(refine gx (pathOf_sem ?_)<;>exact pre)|(refine gx (findIn_sem ?_ ?_ ?_ ?_ ?_ ?_ ?_ ?_ ?_ ?_ ?_)<;>exact pre)|(refine gx (within_sem ?_ ?_ ?_)<;>exact pre)|(refine gx (has4_sem ?_ ?_)<;>exact pre)|(refine gx (numberWithin4_of ?_ ?_ ?_ ?_ ?_ ?_ ?_)<;>exact pre)|exact sideG)|(first|apply dG|apply kB);kernel_rfl|apply rR|apply rE|apply rH|(apply cD<;>intro hb<;>(try simp only[SPLT]at hb)<;>try exact noB))
       all_goals try exact false
       refine loop_go (M:=fun t=>mem t [11,2000011,1000021,1000034,1000044,1000045,1000084]) hT hM (fun i:Nat => [(10,.int .i64 i)]) (fun i=>i≤kd.length∧((kd.drop i).all fun l=>(Cond.mk kx ksx px vsx lox hix).holds l)=r) (fun i=>kd.length - i) (0) ?_ ?_ ?_
       ·exact finF
       ·exact ⟨Nat.zero_le _,hr⟩
       ·rintro i ⟨hi,hv⟩
        cases hx:kd[i]? with
        |none=>
         have hm:=List.getElem?_eq_none_iff.1 hx
         rw [List.drop_of_length_le hm] at hv
         repeat'((conv=>whnf);first|(try(first|apply eN|apply eI|apply eC);conv=>whnf);apply sD;(focus(try intro hc;have hc0:=hc;(try simp only[SPLT]at hc);try refine and0 ?_);first|(refine gx (NamesOf_sem ?_)<;>exact pre)|(refine gx (pathOf_sem ?_)<;>exact pre)|(refine gx (findIn_sem ?_ ?_ ?_ ?_ ?_ ?_ ?_ ?_ ?_ ?_ ?_)<;>exact pre)|(refine gx (within_sem ?_ ?_ ?_)<;>exact pre)|(refine gx (has4_sem ?_ ?_)<;>exact pre)|(refine gx (numberWithin4_of ?_ ?_ ?_ ?_ ?_ ?_ ?_)<;>exact pre)|exact sideG)|(first|apply dG|apply kB);kernel_rfl|apply rR|apply rE|apply rH|(apply cD<;>intro hb<;>(try simp only[SPLT]at hb)<;>try exact noB))
         all_goals try exact false
         repeat' ((conv=>whnf);first|exact endR|with_reducible first|apply And.intro|apply oR|apply oN|apply dC)
         all_goals (conv=>whnf)
         exact rle_bool hv
        |some l=>
         have hlt:=(gLt hx)
         have h1:=h1 l (gMem hx)
         rw [all_at _ hx] at hv
         generalize (Cond.mk kx ksx px vsx lox hix).holds l=b at h1 hv
         cases b with
         |false=>
          repeat'((conv=>whnf);first|(try(first|apply eN|apply eI|apply eC);conv=>whnf);apply sD;(focus(try intro hc;have hc0:=hc;(try simp only[SPLT]at hc);try refine and0 ?_);first|(exact idx_row (l := [Cond.mk kx ksx px vsx lox hix]) (j:=0) rfl rfl)|(exact idx_kl hx rfl)|exact gx h1|(refine gx (NamesOf_sem ?_)<;>exact pre)|(refine gx (pathOf_sem ?_)<;>exact pre)|(refine gx (findIn_sem ?_ ?_ ?_ ?_ ?_ ?_ ?_ ?_ ?_ ?_ ?_)<;>exact pre)|(refine gx (within_sem ?_ ?_ ?_)<;>exact pre)|(refine gx (has4_sem ?_ ?_)<;>exact pre)|(refine gx (numberWithin4_of ?_ ?_ ?_ ?_ ?_ ?_ ?_)<;>exact pre)|exact sideG)|(first|apply dG|apply kB);kernel_rfl|apply rR|apply rE|apply rH|((apply cD)<;>intro hb<;>(try simp only [SPLT] at hb)<;>(try first|exact noB|((exact absurd hb (by decide);done);done))))
          all_goals try exact false
          repeat' ((conv=>whnf);first|exact endR|with_reducible first|apply And.intro|apply oR|apply oN|apply dC)
          all_goals (conv=>whnf)
          exact rle_bool hv
         |true=>
          repeat'((conv=>whnf);first|(try(first|apply eN|apply eI|apply eC);conv=>whnf);apply sD;(focus(try intro hc;have hc0:=hc;(try simp only[SPLT]at hc);try refine and0 ?_);first|(exact idx_row (l := [Cond.mk kx ksx px vsx lox hix]) (j:=0) rfl rfl)|(exact idx_kl hx rfl)|exact gx h1|(refine gx (NamesOf_sem ?_)<;>exact pre)|(refine gx (pathOf_sem ?_)<;>exact pre)|(refine gx (findIn_sem ?_ ?_ ?_ ?_ ?_ ?_ ?_ ?_ ?_ ?_ ?_)<;>exact pre)|(refine gx (within_sem ?_ ?_ ?_)<;>exact pre)|(refine gx (has4_sem ?_ ?_)<;>exact pre)|(refine gx (numberWithin4_of ?_ ?_ ?_ ?_ ?_ ?_ ?_)<;>exact pre)|exact sideG)|(first|apply dG|apply kB);kernel_rfl|apply rR|apply rE|apply rH|((apply cD)<;>intro hb<;>(try simp only [SPLT] at hb)<;>(try first|exact noB|((exact absurd hb (by decide);done);done))))
          all_goals try exact false
          refine ⟨i+1,⟨by omega,hv⟩,by omega,?_⟩
          exact finF
      ·rw [if_neg (by decide),if_pos rfl]
       generalize hr:(kd.any fun l=>(Cond.mk kx ksx px vsx lox hix).holds l)=r
       refine si [11,2000011,1000021,1000034,1000044,1000045,1000084] Tryz.func30 ?_
       repeat'((conv=>whnf);first|(try(first|apply eN|apply eI|apply eC);conv=>whnf);apply sD;(focus(try intro hc;have hc0:=hc;(try simp only[SPLT]at hc);try refine and0 ?_);first|exact gx h4|exact gx h5|(refine gx (NamesOf_sem ?_)<;>exact pre)|(refine gx (pathOf_sem ?_)<;>exact pre)|(refine gx (findIn_sem ?_ ?_ ?_ ?_ ?_ ?_ ?_ ?_ ?_ ?_ ?_)<;>exact pre)|(refine gx (within_sem ?_ ?_ ?_)<;>exact pre)|(refine gx (has4_sem ?_ ?_)<;>exact pre)|(refine gx (numberWithin4_of ?_ ?_ ?_ ?_ ?_ ?_ ?_)<;>exact pre)|exact sideG)|(first|apply dG|apply kB);kernel_rfl|apply rR|apply rE|apply rH|(apply cD<;>intro hb<;>(try simp only[SPLT]at hb)<;>try exact noB))
       all_goals try exact false
       refine loop_go (M:=fun t=>mem t [11,2000011,1000021,1000034,1000044,1000045,1000084]) hT hM (fun i:Nat => [(10,.int .i64 i)]) (fun i=>i≤kd.length∧((kd.drop i).any fun l=>(Cond.mk kx ksx px vsx lox hix).holds l)=r) (fun i=>kd.length - i) (0) ?_ ?_ ?_
       ·exact finF
       ·exact ⟨Nat.zero_le _,hr⟩
       ·rintro i ⟨hi,hv⟩
        cases hx:kd[i]? with
        |none=>
         have hm:=List.getElem?_eq_none_iff.1 hx
         rw [List.drop_of_length_le hm] at hv
         repeat'((conv=>whnf);first|(try(first|apply eN|apply eI|apply eC);conv=>whnf);apply sD;(focus(try intro hc;have hc0:=hc;(try simp only[SPLT]at hc);try refine and0 ?_);first|(refine gx (NamesOf_sem ?_)<;>exact pre)|(refine gx (pathOf_sem ?_)<;>exact pre)|(refine gx (findIn_sem ?_ ?_ ?_ ?_ ?_ ?_ ?_ ?_ ?_ ?_ ?_)<;>exact pre)|(refine gx (within_sem ?_ ?_ ?_)<;>exact pre)|(refine gx (has4_sem ?_ ?_)<;>exact pre)|(refine gx (numberWithin4_of ?_ ?_ ?_ ?_ ?_ ?_ ?_)<;>exact pre)|exact sideG)|(first|apply dG|apply kB);kernel_rfl|apply rR|apply rE|apply rH|(apply cD<;>intro hb<;>(try simp only[SPLT]at hb)<;>try exact noB))
         all_goals try exact false
         repeat' ((conv=>whnf);first|exact endR|with_reducible first|apply And.intro|apply oR|apply oN|apply dC)
         all_goals (conv=>whnf)
         exact rle_bool hv
        |some l=>
         have hlt:=(gLt hx)
         have h1:=h1 l (gMem hx)
         rw [any_at _ hx] at hv
         generalize (Cond.mk kx ksx px vsx lox hix).holds l=b at h1 hv
         cases b with
         |true=>
          repeat'((conv=>whnf);first|(try(first|apply eN|apply eI|apply eC);conv=>whnf);apply sD;(focus(try intro hc;have hc0:=hc;(try simp only[SPLT]at hc);try refine and0 ?_);first|(exact idx_row (l := [Cond.mk kx ksx px vsx lox hix]) (j:=0) rfl rfl)|(exact idx_kl hx rfl)|exact gx h1|(refine gx (NamesOf_sem ?_)<;>exact pre)|(refine gx (pathOf_sem ?_)<;>exact pre)|(refine gx (findIn_sem ?_ ?_ ?_ ?_ ?_ ?_ ?_ ?_ ?_ ?_ ?_)<;>exact pre)|(refine gx (within_sem ?_ ?_ ?_)<;>exact pre)|(refine gx (has4_sem ?_ ?_)<;>exact pre)|(refine gx (numberWithin4_of ?_ ?_ ?_ ?_ ?_ ?_ ?_)<;>exact pre)|exact sideG)|(first|apply dG|apply kB);kernel_rfl|apply rR|apply rE|apply rH|((apply cD)<;>intro hb<;>(try simp only [SPLT] at hb)<;>(try first|exact noB|((exact absurd hb (by decide);done);done))))
          all_goals try exact false
          repeat' ((conv=>whnf);first|exact endR|with_reducible first|apply And.intro|apply oR|apply oN|apply dC)
          all_goals (conv=>whnf)
          exact rle_bool hv
         |false=>
          repeat'((conv=>whnf);first|(try(first|apply eN|apply eI|apply eC);conv=>whnf);apply sD;(focus(try intro hc;have hc0:=hc;(try simp only[SPLT]at hc);try refine and0 ?_);first|(exact idx_row (l := [Cond.mk kx ksx px vsx lox hix]) (j:=0) rfl rfl)|(exact idx_kl hx rfl)|exact gx h1|(refine gx (NamesOf_sem ?_)<;>exact pre)|(refine gx (pathOf_sem ?_)<;>exact pre)|(refine gx (findIn_sem ?_ ?_ ?_ ?_ ?_ ?_ ?_ ?_ ?_ ?_ ?_)<;>exact pre)|(refine gx (within_sem ?_ ?_ ?_)<;>exact pre)|(refine gx (has4_sem ?_ ?_)<;>exact pre)|(refine gx (numberWithin4_of ?_ ?_ ?_ ?_ ?_ ?_ ?_)<;>exact pre)|exact sideG)|(first|apply dG|apply kB);kernel_rfl|apply rR|apply rE|apply rH|((apply cD)<;>intro hb<;>(try simp only [SPLT] at hb)<;>(try first|exact noB|((exact absurd hb (by decide);done);done))))
          all_goals try exact false
          refine ⟨i+1,⟨by omega,hv⟩,by omega,?_⟩
          exact finF
     ·rw [if_neg (by omega),if_neg (by omega)]
      obtain ⟨w1,w2,w3,w4,w5⟩:=way_bd p hp
      have hw:=pathOf_sem p
      rw [pathN_ok (rp (by omega))] at hw
      have htx:=findIn_sem t (wayN p).1.1 (wayN p).1.2.1 (wayN p).1.2.2.1 (wayN p).1.2.2.2 ht.few ht.nar w2 w3 w4 w5
      obtain ⟨f1,f2⟩:=findTexts_ok (ns:=(wayN p).1.1) (tag:=(wayN p).1.2.1) (el:=(wayN p).1.2.2.1) (pt:=(wayN p).1.2.2.2) ht.nar ht.few
      have eT:textsP p t=findTexts (wayN p).1.1 (wayN p).1.2.1 (wayN p).1.2.2.1 (wayN p).1.2.2.2 t:=rfl
      rw [eT]
      generalize findTexts (wayN p).1.1 (wayN p).1.2.1 (wayN p).1.2.2.1 (wayN p).1.2.2.2 t=tx at htx f1 f2 ⊢
      generalize hwn:wayN p=wn at hw htx
      obtain ⟨⟨wa,wb,wc,wd⟩,we⟩:=wn
      unfold Wy.row at hw
      dsimp only at hw htx
      have hll:(tx.map fun s => [D.str s]).length=tx.length:=List.length_map _
      clear ih ih' h3 rg rp hk rk hwn eT w1 w2 w3 w4 w5
      unfold leafL
      have hk:k=4∨k=6∨k=5∨k=9:=by omega
      rcases hk with rfl|rfl|rfl|rfl
      ·rw [if_pos rfl]
       refine si [11,2000011,1000021,1000034,1000044,1000045,1000084] Tryz.func30 ?_
       repeat'((conv=>whnf);first|(try(first|apply eN|apply eI|apply eC);conv=>whnf);apply sD;(focus(try intro hc;have hc0:=hc;(try simp only[SPLT]at hc);try refine and0 ?_);first|exact gx hw|exact gx htx|(refine gx (NamesOf_sem ?_)<;>exact pre)|(refine gx (pathOf_sem ?_)<;>exact pre)|(refine gx (findIn_sem ?_ ?_ ?_ ?_ ?_ ?_ ?_ ?_ ?_ ?_ ?_)<;>exact pre)|(refine gx (within_sem ?_ ?_ ?_)<;>exact pre)|(refine gx (has4_sem ?_ ?_)<;>exact pre)|(refine gx (numberWithin4_of ?_ ?_ ?_ ?_ ?_ ?_ ?_)<;>exact pre)|exact sideG)|(first|apply dG|apply kB);kernel_rfl|apply rR|apply rE|apply rH|(apply cD<;>intro hb<;>(try simp only[SPLT]at hb)<;>try exact noB))
       all_goals try exact false
       repeat' ((conv=>whnf);first|exact endR|with_reducible first|apply And.intro|apply oR|apply oN|apply dC)
       all_goals (conv=>whnf)
       exact rle_bool (by rw [hll])
      ·rw [if_neg (by decide),if_pos rfl]
       have hwi:=within_sem (tx.length:Int) lo hi
       rw [← hll] at hwi
       refine si [11,2000011,1000021,1000034,1000044,1000045,1000084] Tryz.func30 ?_
       repeat'((conv=>whnf);first|(try(first|apply eN|apply eI|apply eC);conv=>whnf);apply sD;(focus(try intro hc;have hc0:=hc;(try simp only[SPLT]at hc);try refine and0 ?_);first|exact gx hw|exact gx htx|exact gx hwi|(refine gx (NamesOf_sem ?_)<;>exact pre)|(refine gx (pathOf_sem ?_)<;>exact pre)|(refine gx (findIn_sem ?_ ?_ ?_ ?_ ?_ ?_ ?_ ?_ ?_ ?_ ?_)<;>exact pre)|(refine gx (within_sem ?_ ?_ ?_)<;>exact pre)|(refine gx (has4_sem ?_ ?_)<;>exact pre)|(refine gx (numberWithin4_of ?_ ?_ ?_ ?_ ?_ ?_ ?_)<;>exact pre)|exact sideG)|(first|apply dG|apply kB);kernel_rfl|apply rR|apply rE|apply rH|(apply cD<;>intro hb<;>(try simp only[SPLT]at hb)<;>try exact noB))
       all_goals try exact false
       repeat' ((conv=>whnf);first|exact endR|with_reducible first|apply And.intro|apply oR|apply oN|apply dC)
       all_goals (conv=>whnf)
       refine rle_bool ?_
       rw [hll,Bool.eq_iff_iff]
       simp
      ·rw [if_neg (by decide),if_neg (by decide),if_pos rfl]
       generalize hr:(tx.any fun s=>vs.contains s)=r
       refine si [11,2000011,1000021,1000034,1000044,1000045,1000084] Tryz.func30 ?_
       repeat'((conv=>whnf);first|(try(first|apply eN|apply eI|apply eC);conv=>whnf);apply sD;(focus(try intro hc;have hc0:=hc;(try simp only[SPLT]at hc);try refine and0 ?_);first|exact gx hw|exact gx htx|(refine gx (NamesOf_sem ?_)<;>exact pre)|(refine gx (pathOf_sem ?_)<;>exact pre)|(refine gx (findIn_sem ?_ ?_ ?_ ?_ ?_ ?_ ?_ ?_ ?_ ?_ ?_)<;>exact pre)|(refine gx (within_sem ?_ ?_ ?_)<;>exact pre)|(refine gx (has4_sem ?_ ?_)<;>exact pre)|(refine gx (numberWithin4_of ?_ ?_ ?_ ?_ ?_ ?_ ?_)<;>exact pre)|exact sideG)|(first|apply dG|apply kB);kernel_rfl|apply rR|apply rE|apply rH|(apply cD<;>intro hb<;>(try simp only[SPLT]at hb)<;>try exact noB))
       all_goals try exact false
       refine loop_go (M:=fun t=>mem t [11,2000011,1000021,1000034,1000044,1000045,1000084]) hT hM (fun i:Nat => [(14,.int .i64 i)]) (fun i=>i≤tx.length∧((tx.drop i).any fun s=>vs.contains s)=r) (fun i=>tx.length - i) (0) ?_ ?_ ?_
       ·exact finF
       ·exact ⟨Nat.zero_le _,hr⟩
       ·rintro i ⟨hi,hv⟩
        cases hx:tx[i]? with
        |none=>
         have hm:=List.getElem?_eq_none_iff.1 hx
         rw [List.drop_of_length_le hm] at hv
         repeat'((conv=>whnf);first|(try(first|apply eN|apply eI|apply eC);conv=>whnf);apply sD;(focus(try intro hc;have hc0:=hc;(try simp only[SPLT]at hc);try refine and0 ?_);first|(refine gx (NamesOf_sem ?_)<;>exact pre)|(refine gx (pathOf_sem ?_)<;>exact pre)|(refine gx (findIn_sem ?_ ?_ ?_ ?_ ?_ ?_ ?_ ?_ ?_ ?_ ?_)<;>exact pre)|(refine gx (within_sem ?_ ?_ ?_)<;>exact pre)|(refine gx (has4_sem ?_ ?_)<;>exact pre)|(refine gx (numberWithin4_of ?_ ?_ ?_ ?_ ?_ ?_ ?_)<;>exact pre)|exact sideG)|(first|apply dG|apply kB);kernel_rfl|apply rR|apply rE|apply rH|(apply cD<;>intro hb<;>(try simp only[SPLT]at hb)<;>try exact noB))
         all_goals try exact false
         repeat' ((conv=>whnf);first|exact endR|with_reducible first|apply And.intro|apply oR|apply oN|apply dC)
         all_goals (conv=>whnf)
         exact rle_bool hv
        |some s=>
         have hlt:=(gLt hx)
         have h1:=has4_sem vs s
         rw [any_at _ hx] at hv
         generalize vs.contains s=b at h1 hv
         cases b with
         |true=>
          repeat'((conv=>whnf);first|(try(first|apply eN|apply eI|apply eC);conv=>whnf);apply sD;(focus(try intro hc;have hc0:=hc;(try simp only[SPLT]at hc);try refine and0 ?_);first|(exact idx_eq (f:=fun s => [D.str s]) hx rfl)|exact gx h1|exact gx (numberWithin4_of hC s lo _ (f2 s (gMem hx)) hlo hhi)|(refine gx (NamesOf_sem ?_)<;>exact pre)|(refine gx (pathOf_sem ?_)<;>exact pre)|(refine gx (findIn_sem ?_ ?_ ?_ ?_ ?_ ?_ ?_ ?_ ?_ ?_ ?_)<;>exact pre)|(refine gx (within_sem ?_ ?_ ?_)<;>exact pre)|(refine gx (has4_sem ?_ ?_)<;>exact pre)|(refine gx (numberWithin4_of ?_ ?_ ?_ ?_ ?_ ?_ ?_)<;>exact pre)|exact sideG)|(first|apply dG|apply kB);kernel_rfl|apply rR|apply rE|apply rH|((apply cD)<;>intro hb<;>(try simp only [SPLT] at hb)<;>(try first|exact noB|((exact absurd hb (by decide);done);done))))
          all_goals try exact false
          repeat' ((conv=>whnf);first|exact endR|with_reducible first|apply And.intro|apply oR|apply oN|apply dC)
          all_goals (conv=>whnf)
          exact rle_bool hv
         |false=>
          repeat'((conv=>whnf);first|(try(first|apply eN|apply eI|apply eC);conv=>whnf);apply sD;(focus(try intro hc;have hc0:=hc;(try simp only[SPLT]at hc);try refine and0 ?_);first|(exact idx_eq (f:=fun s => [D.str s]) hx rfl)|exact gx h1|exact gx (numberWithin4_of hC s lo _ (f2 s (gMem hx)) hlo hhi)|(refine gx (NamesOf_sem ?_)<;>exact pre)|(refine gx (pathOf_sem ?_)<;>exact pre)|(refine gx (findIn_sem ?_ ?_ ?_ ?_ ?_ ?_ ?_ ?_ ?_ ?_ ?_)<;>exact pre)|(refine gx (within_sem ?_ ?_ ?_)<;>exact pre)|(refine gx (has4_sem ?_ ?_)<;>exact pre)|(refine gx (numberWithin4_of ?_ ?_ ?_ ?_ ?_ ?_ ?_)<;>exact pre)|exact sideG)|(first|apply dG|apply kB);kernel_rfl|apply rR|apply rE|apply rH|((apply cD)<;>intro hb<;>(try simp only [SPLT] at hb)<;>(try first|exact noB|((exact absurd hb (by decide);done);done))))
          all_goals try exact false
          refine ⟨i+1,⟨by omega,hv⟩,by omega,?_⟩
          exact finF
      ·rw [if_neg (by decide),if_neg (by decide),if_neg (by decide)]
       generalize hr:(tx.any fun s=>withinB s lo hi)=r
       refine si [11,2000011,1000021,1000034,1000044,1000045,1000084] Tryz.func30 ?_
       repeat'((conv=>whnf);first|(try(first|apply eN|apply eI|apply eC);conv=>whnf);apply sD;(focus(try intro hc;have hc0:=hc;(try simp only[SPLT]at hc);try refine and0 ?_);first|exact gx hw|exact gx htx|(refine gx (NamesOf_sem ?_)<;>exact pre)|(refine gx (pathOf_sem ?_)<;>exact pre)|(refine gx (findIn_sem ?_ ?_ ?_ ?_ ?_ ?_ ?_ ?_ ?_ ?_ ?_)<;>exact pre)|(refine gx (within_sem ?_ ?_ ?_)<;>exact pre)|(refine gx (has4_sem ?_ ?_)<;>exact pre)|(refine gx (numberWithin4_of ?_ ?_ ?_ ?_ ?_ ?_ ?_)<;>exact pre)|exact sideG)|(first|apply dG|apply kB);kernel_rfl|apply rR|apply rE|apply rH|(apply cD<;>intro hb<;>(try simp only[SPLT]at hb)<;>try exact noB))
       all_goals try exact false
       refine loop_go (M:=fun t=>mem t [11,2000011,1000021,1000034,1000044,1000045,1000084]) hT hM (fun i:Nat => [(14,.int .i64 i)]) (fun i=>i≤tx.length∧((tx.drop i).any fun s=>withinB s lo hi)=r) (fun i=>tx.length - i) (0) ?_ ?_ ?_
       ·exact finF
       ·exact ⟨Nat.zero_le _,hr⟩
       ·rintro i ⟨hi',hv⟩
        cases hx:tx[i]? with
        |none=>
         have hm:=List.getElem?_eq_none_iff.1 hx
         rw [List.drop_of_length_le hm] at hv
         repeat'((conv=>whnf);first|(try(first|apply eN|apply eI|apply eC);conv=>whnf);apply sD;(focus(try intro hc;have hc0:=hc;(try simp only[SPLT]at hc);try refine and0 ?_);first|(refine gx (NamesOf_sem ?_)<;>exact pre)|(refine gx (pathOf_sem ?_)<;>exact pre)|(refine gx (findIn_sem ?_ ?_ ?_ ?_ ?_ ?_ ?_ ?_ ?_ ?_ ?_)<;>exact pre)|(refine gx (within_sem ?_ ?_ ?_)<;>exact pre)|(refine gx (has4_sem ?_ ?_)<;>exact pre)|(refine gx (numberWithin4_of ?_ ?_ ?_ ?_ ?_ ?_ ?_)<;>exact pre)|exact sideG)|(first|apply dG|apply kB);kernel_rfl|apply rR|apply rE|apply rH|(apply cD<;>intro hb<;>(try simp only[SPLT]at hb)<;>try exact noB))
         all_goals try exact false
         repeat' ((conv=>whnf);first|exact endR|with_reducible first|apply And.intro|apply oR|apply oN|apply dC)
         all_goals (conv=>whnf)
         exact rle_bool hv
        |some s=>
         have hlt:=(gLt hx)
         have h1:=numberWithin4_of hC s lo hi (f2 s (gMem hx)) hlo hhi
         rw [any_at _ hx] at hv
         generalize withinB s lo hi=b at h1 hv
         cases b with
         |true=>
          repeat'((conv=>whnf);first|(try(first|apply eN|apply eI|apply eC);conv=>whnf);apply sD;(focus(try intro hc;have hc0:=hc;(try simp only[SPLT]at hc);try refine and0 ?_);first|(exact idx_eq (f:=fun s => [D.str s]) hx rfl)|exact gx h1|exact gx (has4_sem vs s)|(refine gx (NamesOf_sem ?_)<;>exact pre)|(refine gx (pathOf_sem ?_)<;>exact pre)|(refine gx (findIn_sem ?_ ?_ ?_ ?_ ?_ ?_ ?_ ?_ ?_ ?_ ?_)<;>exact pre)|(refine gx (within_sem ?_ ?_ ?_)<;>exact pre)|(refine gx (has4_sem ?_ ?_)<;>exact pre)|(refine gx (numberWithin4_of ?_ ?_ ?_ ?_ ?_ ?_ ?_)<;>exact pre)|exact sideG)|(first|apply dG|apply kB);kernel_rfl|apply rR|apply rE|apply rH|((apply cD)<;>intro hb<;>(try simp only [SPLT] at hb)<;>(try first|exact noB|((exact absurd hb (by decide);done);done))))
          all_goals try exact false
          repeat' ((conv=>whnf);first|exact endR|with_reducible first|apply And.intro|apply oR|apply oN|apply dC)
          all_goals (conv=>whnf)
          exact rle_bool hv
         |false=>
          repeat'((conv=>whnf);first|(try(first|apply eN|apply eI|apply eC);conv=>whnf);apply sD;(focus(try intro hc;have hc0:=hc;(try simp only[SPLT]at hc);try refine and0 ?_);first|(exact idx_eq (f:=fun s => [D.str s]) hx rfl)|exact gx h1|exact gx (has4_sem vs s)|(refine gx (NamesOf_sem ?_)<;>exact pre)|(refine gx (pathOf_sem ?_)<;>exact pre)|(refine gx (findIn_sem ?_ ?_ ?_ ?_ ?_ ?_ ?_ ?_ ?_ ?_ ?_)<;>exact pre)|(refine gx (within_sem ?_ ?_ ?_)<;>exact pre)|(refine gx (has4_sem ?_ ?_)<;>exact pre)|(refine gx (numberWithin4_of ?_ ?_ ?_ ?_ ?_ ?_ ?_)<;>exact pre)|exact sideG)|(first|apply dG|apply kB);kernel_rfl|apply rR|apply rE|apply rH|((apply cD)<;>intro hb<;>(try simp only [SPLT] at hb)<;>(try first|exact noB|((exact absurd hb (by decide);done);done))))
          all_goals try exact false
          refine ⟨i+1,⟨by omega,hv⟩,by omega,?_⟩
          exact finF
end Go.Proofs.YtnlbekongmkmjaaGreatDoor
