/- Conditions are right: the reference's check of all parts (walks). The texts of conditions: the program's and the reference's; the law. -/
import Derived.Test.YtindehjiaknokaaGreatDoorZ26
import Derived.Test.YtindehjiaknokaaGreatDoorZ24
import Derived.Test.YtindehjiaknokaaGreatDoorZ20
import Derived.Test.YtindehjiaknokaaGreatDoorZ16
namespace Go.Proofs.YtindehjiaknokaaGreatDoor
set_option linter.unusedSimpArgs false
set_option linter.unusedVariables false
open Go.RowKit
set_option maxRecDepth 100000
set_option maxHeartbeats 4000000
theorem check_sem (c:Cond):c.Txt→∀ d n:Int,0≤n→n≤200→0≤d→d≤1000→Sem Tryz.prog 17 [.agg c.row,.int .i64 d,.int .i64 n] (.tup [.int .i64 (c.chk d n).1,.int .i64 (c.chk d n).2]):=by
 induction c using Cond.ind with
 |h k ks p vs lo hi ih=>
  intro ht d n hn0 hn hd0 hd
  obtain ⟨_,hvs,hks⟩:=ht
  have h1:=checkNode_sem k (ks.map Cond.row) p vs lo hi hvs
  rw [List.length_map] at h1
  rw [chk_mk,Cond.row_mk]
  generalize ownErr k ks.length p vs lo hi=e at h1 ⊢
  generalize hr:(if 200 < n+1∨6 < d then (n+1,(2:Int)) else if e ≠ 0 then (n+1,e) else Cond.chks ks (d+1) (n+1))=r
  refine si [1000016] Tryz.func17 ?_
  repeat'((conv=>whnf);first|(try(first|apply eN|apply eI|apply eC);conv=>whnf);apply sD;(focus(try intro hc;have hc0:=hc;(try simp only[SPLT]at hc);try refine and0 ?_);first|exact gx h1|(refine gx (checkNode_sem ?_ ?_ ?_ ?_ ?_ ?_ ?_)<;>exact pre)|exact sideG)|apply rR|apply rE|apply rH| (apply cD<;>intro hb<;>(try simp only[SPLT]at hb)<;>try exact noB))
  all_goals try exact false
  ·rw [if_pos (by omega)] at hr
   subst hr
   exact finR
  ·rw [if_neg (by omega),if_pos (by omega)] at hr
   subst hr
   exact finR
  ·have hll:(ks.map Cond.row).length=ks.length:=List.length_map _
   rw [if_neg (by omega),if_neg (by omega)] at hr
   refine loop_go (M:=fun t=>mem t [0,1000016]) hT hM (fun x:Nat × Int => [(9,.int .i64 x.1),(2,.int .i64 x.2)]) (fun x=>x.1≤ks.length∧n+1+x.1≤x.2∧x.2≤200∧Cond.chks (ks.drop x.1) (d+1) x.2=r) (fun x=>ks.length - x.1) ((0,n+1)) ?_ ?_ ?_
   ·exact finF
   ·exact ⟨Nat.zero_le _,by dsimp only;omega,by dsimp only;omega,hr⟩
   ·rintro ⟨i,m⟩ ⟨hi,hm1,hm2,hv⟩
    dsimp only at hi hm1 hm2 hv ⊢
    cases hx:ks[i]? with
    |none=>
     have hm:=List.getElem?_eq_none_iff.1 hx
     rw [List.drop_of_length_le hm,chks_nil] at hv
     subst hv
     repeat'((conv=>whnf);first|(try(first|apply eN|apply eI|apply eC);conv=>whnf);apply sD;(focus(try intro hc;have hc0:=hc;(try simp only[SPLT]at hc);try refine and0 ?_);first|(refine gx (checkNode_sem ?_ ?_ ?_ ?_ ?_ ?_ ?_)<;>exact pre)|exact sideG)|apply rR|apply rE|apply rH| (apply cD<;>intro hb<;>(try simp only[SPLT]at hb)<;>try exact noB))
     all_goals try exact false
     exact finR
    |some x=>
     have hlt:=(gLt hx)
     obtain ⟨hb1,hb2⟩:=chk_bd x (d+1) m hm2
     have ih':=ih x (gMem hx) (hks x (gMem hx)) (d+1) m (by omega) hm2 (by omega) (by omega)
     rw [chks_at hx] at hv
     generalize x.chk (d+1) m=y at hv ih' hb1 hb2
     obtain ⟨m2,e2⟩:=y
     obtain ⟨k1,ks1,p1,vs1,lo1,hi1⟩:=x
     rw [Cond.row_mk] at ih'
     dsimp only at hv ih' hb1 hb2
     repeat'((conv=>whnf);first|(try(first|apply eN|apply eI|apply eC);conv=>whnf);apply sD;(focus(try intro hc;have hc0:=hc;(try simp only[SPLT]at hc);try refine and0 ?_);first|(exact idx_row hx rfl)|exact gx ih' | (refine gx (checkNode_sem ?_ ?_ ?_ ?_ ?_ ?_ ?_)<;>exact pre)|exact sideG)|apply rR|apply rE|apply rH| (apply cD<;>intro hb<;>(try simp only[SPLT]at hb)<;>try exact noB))
     all_goals try exact false
     ·rw [if_pos (by omega)] at hv
      subst hv
      exact finR
     ·rw [if_neg (by omega)] at hv
      refine ⟨(i+1,m2),⟨by dsimp only;omega,by dsimp only;omega,by dsimp only;omega,hv⟩,by dsimp only;omega,?_⟩
      exact finF
theorem checkCond4_sem (c:Cond) (ht:c.Txt):Sem Tryz.prog 9 [.agg c.row] (.int .i64 c.err):=by
 have h:=check_sem c ht 0 0 (by omega) (by omega) (by omega) (by omega)
 unfold Cond.err
 generalize c.chk 0 0=y at h ⊢
 obtain ⟨m,e⟩:=y
 obtain ⟨k,ks,p,vs,lo,hi⟩:=c
 rw [Cond.row_mk] at h ⊢
 dsimp only at h ⊢
 refine si [1000016] Tryz.func9 ?_
 repeat'((conv=>whnf);first|(try(first|apply eN|apply eI|apply eC);conv=>whnf);apply sD;(focus first|exact gx h|exact side)|apply rR|apply rE|apply rH| (apply cD<;>intro hb<;>(try simp only[SPLT]at hb)<;>try exact noB))
 all_goals try exact false
 exact finR
open Go.Sort
theorem Cond.Full.wr {c:Cond} (h:c.Full):c.Wr:=by
 induction h with
 |@mk k ks p vs lo hi h hf hk ih=>
  have hz:I64 0:=by unfold I64;omega
  have hs:∀ {n:Int},Small13 n → -9223372036854775808≤n∧n≤9223372036854775807:=fun {n} hn=>by unfold Small13 at hn;omega
  rcases own_full h with ⟨_,_,rfl,rfl,rfl,rfl⟩|⟨_,_,rfl,rfl,rfl,rfl⟩|⟨_,_,hp,rfl,rfl,rfl⟩|⟨_,_,hp,hv,rfl,rfl⟩|⟨_,_,hp,rfl,he⟩|⟨_,_,hg,_,rfl,rfl,rfl⟩
  ·exact .mk (by simp) (by simp) (by omega) hz hz ih
  ·exact .mk (by simp) (by simp) (by omega) hz hz ih
  ·exact .mk (by have:=path_len' hp;omega) (by simp) (by omega) hz hz ih
  ·obtain ⟨_,h1,h2⟩:=values_len hv
   exact .mk (by have:=path_len' hp;omega) ⟨by omega,h2⟩ (by omega) hz hz ih
  ·obtain ⟨h1,h2⟩:=ends_bd' he
   exact .mk (by have:=path_len' hp;omega) (by simp) (by omega) (hs h1) (hs h2) ih
  ·exact .mk (by have:=groups_len' hg;omega) (by simp) (by omega) hz hz ih
def textN (c:Cond):Str × Int:=if c.err ≠ 0 then ([],c.err) else if 2000 < c.text.length then ([],2) else (c.text,0)
theorem textP_sem (c:Cond):Sem Tryz.prog 6 [.agg c.row] (.tup [.str (textN c).1,.int .i64 (textN c).2]):=by
 have h1:=checkCond_sem c
 have hT:textN c=if c.err ≠ 0 then ([],c.err) else if 2000 < c.text.length then ([],2) else (c.text,0):=rfl
 by_cases he:c.err=0
 ·obtain ⟨hf,hl⟩:=err_full he
  have h2:=write_sem c hf.wr (by omega)
  rw [if_neg (by simpa using he)] at hT
  rw [he] at h1
  generalize textN c=T at hT ⊢
  generalize c.text=t at hT h2 hl
  obtain ⟨k,ks,p,vs,lo,hi⟩:=c
  rw [Cond.row_mk] at h1 h2 ⊢
  by_cases hb:2000 < t.length
  ·rw [if_pos hb] at hT
   subst hT
   refine si [1000016] Tryz.func6 ?_
   repeat'((conv=>whnf);first|(try(first|apply eN|apply eI|apply eC);conv=>whnf);apply sD;(focus first|exact gx h1|exact gx h2|(refine gx (bgm_check )<;>exact pre)|(refine gx (checkCond_sem ?_)<;>exact pre)|(refine gx (bgm_write )<;>exact pre)|exact side)|apply rR|apply rE|apply rH| ((apply cD)<;>intro hb<;>(try simp only [SPLT] at hb)<;>(try first|exact noB|((exfalso;omega;done);done))))
   all_goals try exact false
   exact finR
  ·rw [if_neg hb] at hT
   subst hT
   refine si [1000016] Tryz.func6 ?_
   repeat'((conv=>whnf);first|(try(first|apply eN|apply eI|apply eC);conv=>whnf);apply sD;(focus first|exact gx h1|exact gx h2|(refine gx (bgm_check )<;>exact pre)|(refine gx (checkCond_sem ?_)<;>exact pre)|(refine gx (bgm_write )<;>exact pre)|exact side)|apply rR|apply rE|apply rH| ((apply cD)<;>intro hb<;>(try simp only [SPLT] at hb)<;>(try first|exact noB|((exfalso;omega;done);done))))
   all_goals try exact false
   exact finR
 ·rw [if_pos he] at hT
  rw [hT]
  generalize c.err=e at h1 he ⊢
  obtain ⟨k,ks,p,vs,lo,hi⟩:=c
  rw [Cond.row_mk] at h1 ⊢
  refine si [1000016] Tryz.func6 ?_
  repeat'((conv=>whnf);first|(try(first|apply eN|apply eI|apply eC);conv=>whnf);apply sD;(focus first|exact gx h1|(refine gx (bgm_check )<;>exact pre)|(refine gx (checkCond_sem ?_)<;>exact pre)|(refine gx (bgm_write )<;>exact pre)|exact side)|apply rR|apply rE|apply rH| ((apply cD)<;>intro hb<;>(try simp only [SPLT] at hb)<;>(try first|exact noB|((exfalso;omega;done);done))))
  all_goals try exact false
  exact finR
theorem textR_sem (c:Cond) (ht:c.Txt):Sem Tryz.prog 7 [.agg c.row] (.tup [.str (textN c).1,.int .i64 (textN c).2]):=by
 have h1:=checkCond4_sem c ht
 have hT:textN c=if c.err ≠ 0 then ([],c.err) else if 2000 < c.text.length then ([],2) else (c.text,0):=rfl
 by_cases he:c.err=0
 ·obtain ⟨hf,hl⟩:=err_full he
  have h2:=text4_sem c hf.wr (by omega)
  rw [if_neg (by simpa using he)] at hT
  rw [he] at h1
  generalize textN c=T at hT ⊢
  generalize c.text=t at hT h2 hl
  obtain ⟨k,ks,p,vs,lo,hi⟩:=c
  rw [Cond.row_mk] at h1 h2 ⊢
  by_cases hb:2000 < t.length
  ·rw [if_pos hb] at hT
   subst hT
   refine si [1000016] Tryz.func7 ?_
   repeat'((conv=>whnf);first|(try(first|apply eN|apply eI|apply eC);conv=>whnf);apply sD;(focus first|exact gx h1|exact gx h2|(refine gx (checkCond4_sem ?_ ?_)<;>exact pre)|exact side)|apply rR|apply rE|apply rH| ((apply cD)<;>intro hb<;>(try simp only [SPLT] at hb)<;>(try first|exact noB|((exfalso;omega;done);done))))
   all_goals try exact false
   exact finR
  ·rw [if_neg hb] at hT
   subst hT
   refine si [1000016] Tryz.func7 ?_
   repeat'((conv=>whnf);first|(try(first|apply eN|apply eI|apply eC);conv=>whnf);apply sD;(focus first|exact gx h1|exact gx h2|(refine gx (checkCond4_sem ?_ ?_)<;>exact pre)|exact side)|apply rR|apply rE|apply rH| ((apply cD)<;>intro hb<;>(try simp only [SPLT] at hb)<;>(try first|exact noB|((exfalso;omega;done);done))))
   all_goals try exact false
   exact finR
 ·rw [if_pos he] at hT
  rw [hT]
  generalize c.err=e at h1 he ⊢
  obtain ⟨k,ks,p,vs,lo,hi⟩:=c
  rw [Cond.row_mk] at h1 ⊢
  refine si [1000016] Tryz.func7 ?_
  repeat'((conv=>whnf);first|(try(first|apply eN|apply eI|apply eC);conv=>whnf);apply sD;(focus first|exact gx h1|(refine gx (checkCond4_sem ?_ ?_)<;>exact pre)|exact side)|apply rR|apply rE|apply rH| ((apply cD)<;>intro hb<;>(try simp only [SPLT] at hb)<;>(try first|exact noB|((exfalso;omega;done);done))))
  all_goals try exact false
  exact finR
theorem law18_sem (c:Cond) (ht:c.Txt):Sem Tryz.prog 3 [.agg c.row] (.bool true):=by
 have h1:=textP_sem c
 have h2:=textR_sem c ht
 have h3:=checkCond_sem c
 have h4:=checkCond4_sem c ht
 have h7:=awake4_sem
 generalize textN c=t at h1 h2
 generalize c.err=e at h3 h4
 obtain ⟨t1,t2⟩:=t
 obtain ⟨k,ks,p,vs,lo,hi⟩:=c
 dsimp only at h1 h2
 rw [Cond.row_mk] at h1 h2 h3 h4 ⊢
 refine si [1000016] Tryz.func3 ?_
 repeat'((conv=>whnf);first|(try(first|apply eN|apply eI|apply eC);conv=>whnf);apply sD;(focus(try intro hc;have hc0:=hc;(try simp only[SPLT]at hc);try refine and0 ?_);first|exact gx h1|exact gx h2|exact gx h3|exact gx h4|exact gx h7|(refine gx (textP_sem ?_)<;>exact pre)|(refine gx (bgm_check )<;>exact pre)|(refine gx (bgm_text )<;>exact pre)|(refine gx (textR_sem ?_ ?_)<;>exact pre)|(refine gx (checkCond_sem ?_)<;>exact pre)|(refine gx (checkCond4_sem ?_ ?_)<;>exact pre)|(refine gx (awake4_sem )<;>exact pre)|exact sideG)|(first|apply dG|apply kB);kernel_rfl|apply rR|apply rE|apply rH| (apply cD<;>intro hb<;>(try simp only[SPLT]at hb)<;>try exact noB))
 all_goals try exact false
 repeat' ((conv=>whnf);first|exact endR|with_reducible first|apply And.intro|apply oR|apply oN|apply dC)
 all_goals (conv=>whnf)
 exact rle_bool (by simp)
end Go.Proofs.YtindehjiaknokaaGreatDoor
