/- How the reference writes conditions. What is written is read, and what is read is written: the law's walk. -/
import Derived.Test.YtindehjiaknokaaGreatDoorY33
import Derived.Test.YtindehjiaknokaaGreatDoorY30
namespace Go.Proofs.YtindehjiaknokaaGreatDoor
set_option linter.unusedSimpArgs false
set_option linter.unusedVariables false
open Go.RowKit Go.Sort
set_option maxRecDepth 100000
set_option maxHeartbeats 4000000
theorem Cond.Full.wr {c:Cond} (h:c.Full):c.Wr:=by
 induction h with
 |@mk k ks p vs lo hi h hf hk ih=>
  have hz:I64 0:=by unfold I64;omega
  have hs:∀ {n:Int},Small13 n → -9223372036854775808≤n∧n≤9223372036854775807:=fun {n} hn=>by unfold Small13 at hn;omega
  rcases own_full h with ⟨_,_,rfl,rfl,rfl,rfl⟩|⟨_,_,rfl,rfl,rfl,rfl⟩|⟨_,_,hp,rfl,rfl,rfl⟩|⟨_,_,hp,hv,rfl,rfl⟩|⟨_,_,hp,rfl,he⟩|⟨_,_,hg,_,rfl,rfl,rfl⟩
  ·exact .mk (by simp) (by simp) (by omega) hz hz ih
  ·exact .mk (by simp) (by simp) (by omega) hz hz ih
  ·exact .mk (by have:=path_len' hp;omega) (by simp) (by omega) hz hz ih
  ·obtain ⟨_,h1,h2⟩:=values_len hv
   exact .mk (by have:=path_len' hp;omega) ⟨by omega,h2⟩ (by omega) hz hz ih
  ·obtain ⟨h1,h2⟩:=ends_bd' he
   exact .mk (by have:=path_len' hp;omega) (by simp) (by omega) (hs h1) (hs h2) ih
  ·exact .mk (by have:=groups_len' hg;omega) (by simp) (by omega) hz hz ih
def textN (c:Cond):Str × Int:=if c.err ≠ 0 then ([],c.err) else if 2000 < c.text.length then ([],2) else (c.text,0)
theorem textP_sem (c:Cond):Sem Tryz.prog 6 [.agg c.row] (.tup [.str (textN c).1,.int .i64 (textN c).2]):=by
 have h1:=checkCond_sem c
 have hT:textN c=if c.err ≠ 0 then ([],c.err) else if 2000 < c.text.length then ([],2) else (c.text,0):=rfl
 by_cases he:c.err=0
 ·obtain ⟨hf,hl⟩:=err_full he
  have h2:=write_sem c hf.wr (by omega)
  rw [if_neg (by simpa using he)] at hT
  rw [he] at h1
  generalize textN c=T at hT ⊢
  generalize c.text=t at hT h2 hl
  obtain ⟨k,ks,p,vs,lo,hi⟩:=c
  rw [Cond.row_mk] at h1 h2 ⊢
  by_cases hb:2000 < t.length
  ·rw [if_pos hb] at hT
   subst hT
   refine si [1000016] Tryz.func6 ?_
   repeat'((conv=>whnf);first|(try(first|apply eN|apply eI|apply eC);conv=>whnf);apply sD;(focus first|exact gx h1|exact gx h2|(refine gx (bgm_check )<;>exact pre)|(refine gx (checkCond_sem ?_)<;>exact pre)|(refine gx (bgm_write )<;>exact pre)|exact side)|apply rR|apply rE|apply rH| ((apply cD)<;>intro hb<;>(try simp only [SPLT] at hb)<;>(try first|exact noB|((exfalso;omega;done);done))))
   all_goals try exact false
   exact finR
  ·rw [if_neg hb] at hT
   subst hT
   refine si [1000016] Tryz.func6 ?_
   repeat'((conv=>whnf);first|(try(first|apply eN|apply eI|apply eC);conv=>whnf);apply sD;(focus first|exact gx h1|exact gx h2|(refine gx (bgm_check )<;>exact pre)|(refine gx (checkCond_sem ?_)<;>exact pre)|(refine gx (bgm_write )<;>exact pre)|exact side)|apply rR|apply rE|apply rH| ((apply cD)<;>intro hb<;>(try simp only [SPLT] at hb)<;>(try first|exact noB|((exfalso;omega;done);done))))
   all_goals try exact false
   exact finR
 ·rw [if_pos he] at hT
  rw [hT]
  generalize c.err=e at h1 he ⊢
  obtain ⟨k,ks,p,vs,lo,hi⟩:=c
  rw [Cond.row_mk] at h1 ⊢
  refine si [1000016] Tryz.func6 ?_
  repeat'((conv=>whnf);first|(try(first|apply eN|apply eI|apply eC);conv=>whnf);apply sD;(focus first|exact gx h1|(refine gx (bgm_check )<;>exact pre)|(refine gx (checkCond_sem ?_)<;>exact pre)|(refine gx (bgm_write )<;>exact pre)|exact side)|apply rR|apply rE|apply rH| ((apply cD)<;>intro hb<;>(try simp only [SPLT] at hb)<;>(try first|exact noB|((exfalso;omega;done);done))))
  all_goals try exact false
  exact finR
end Go.Proofs.YtindehjiaknokaaGreatDoor
namespace Go.Proofs.YtindehjiaknokaaGreatDoor
set_option linter.unusedSimpArgs false
set_option linter.unusedVariables false
open Go.RowKit
set_option maxRecDepth 100000
set_option maxHeartbeats 4000000
theorem text_len (c:Cond) (h:c.err=0):c.text.length≤9223372036854775807:=by
 have:=(err_full h).2
 omega
theorem law24_go (c:Cond) (s:Str) (t:Str × Int) (r1 r2:Cond × Int × Int) (u:Str × Int) (h1:Sem Tryz.prog 6 [.agg c.row] (.tup [.str t.1,.int .i64 t.2])) (h2:t.2=0→r1=(c,0,0)∧Sem Tryz.prog 11 [.str t.1] (.tup [.agg r1.1.row,.int .i64 r1.2.1,.int .i64 r1.2.2]))
  (h3:Sem Tryz.prog 11 [.str s] (.tup [.agg r2.1.row,.int .i64 r2.2.1,.int .i64 r2.2.2])) (h4:r2.2.2 ≠ 0→r2.1=zeroC) (h5:r2.2.2=0→u=(s,0)∧Sem Tryz.prog 6 [.agg r2.1.row] (.tup [.str u.1,.int .i64 u.2])):Sem Tryz.prog 4 [.agg c.row,.str s] (.bool true):=by
 have h7:=awake4_sem
 obtain ⟨t1,t2⟩:=t
 obtain ⟨⟨k2,ks2,p2,vs2,lo2,hi2⟩,n2,e2⟩:=r2
 obtain ⟨k,ks,p,vs,lo,hi⟩:=c
 have h6:=same_sem (.mk k ks p vs lo hi) (.mk k ks p vs lo hi)
 rw [(Cond.same_iff _ _).2 rfl] at h6
 dsimp only at h1 h2 h3 h4 h5
 rw [Cond.row_mk] at h1 h3 h6 ⊢
 by_cases ht:t2=0
 ·obtain ⟨e1,g2⟩:=h2 ht
  clear h2
  subst e1 ht
  dsimp only at g2
  rw [Cond.row_mk] at g2
  by_cases he:e2=0
  ·obtain ⟨e5,g5⟩:=h5 he
   clear h5 h4
   subst e5 he
   dsimp only at g5
   rw [Cond.row_mk] at g5
   refine si [7,10,1000016,1000018,1000019,1000020,1000030,1000031,1000032,1000033,1000034,1000036,1000037,1000038,1000039,1000040,1000041,1000042,1000044,1000068,1000070,1000072,1000073] Tryz.func4 ?_
   repeat'((conv=>whnf);first|(try(first|apply eN|apply eI|apply eC);conv=>whnf);apply sD;(focus(try intro hc;have hc0:=hc;(try simp only[SPLT]at hc);try refine and0 ?_);first|exact gx h1|exact gx g2|exact gx h3|exact gx g5|exact gx h6|exact gx h7|(refine gx (law24_go ?_ ?_ ?_ ?_ ?_ ?_)<;>exact pre)|(refine gx (textP_sem ?_)<;>exact pre)|(refine gx (readP ?_ ?_)<;>exact pre)|(refine gx (bgm_text )<;>exact pre)|(refine gx (readP_sem ?_ ?_ ?_ ?_)<;>exact pre)|(refine gx (awake4_sem )<;>exact pre)|exact sideG)|apply rR|apply rE|apply rH| (apply cD<;>intro hb<;>(try simp only[SPLT]at hb)<;>try exact noB))
   all_goals try exact false
   repeat' ((conv=>whnf);first|exact endR|with_reducible first|apply And.intro|apply oR|apply oN|apply dC)
   all_goals (conv=>whnf)
   try exact rle_bool (by first|rfl|simp)
  ·have h4:=h4 he
   unfold zeroC at h4
   cases h4
   refine si [7,10,1000016,1000018,1000019,1000020,1000030,1000031,1000032,1000033,1000034,1000036,1000037,1000038,1000039,1000040,1000041,1000042,1000044,1000068,1000070,1000072,1000073] Tryz.func4 ?_
   repeat'((conv=>whnf);first|(try(first|apply eN|apply eI|apply eC);conv=>whnf);apply sD;(focus(try intro hc;have hc0:=hc;(try simp only[SPLT]at hc);try refine and0 ?_);first|exact gx h1|exact gx g2|exact gx h3|exact gx h6|exact gx h7|(refine gx (law24_go ?_ ?_ ?_ ?_ ?_ ?_)<;>exact pre)|(refine gx (textP_sem ?_)<;>exact pre)|(refine gx (readP ?_ ?_)<;>exact pre)|(refine gx (bgm_text )<;>exact pre)|(refine gx (readP_sem ?_ ?_ ?_ ?_)<;>exact pre)|(refine gx (awake4_sem )<;>exact pre)|exact sideG)|apply rR|apply rE|apply rH| (apply cD<;>intro hb<;>(try simp only[SPLT]at hb)<;>try exact noB))
   all_goals try exact false
   repeat' ((conv=>whnf);first|exact endR|with_reducible first|apply And.intro|apply oR|apply oN|apply dC)
   all_goals (conv=>whnf)
   try exact rle_bool (by first|rfl|simp)
 ·by_cases he:e2=0
  ·obtain ⟨e5,g5⟩:=h5 he
   clear h5 h4
   subst e5 he
   dsimp only at g5
   rw [Cond.row_mk] at g5
   refine si [7,10,1000016,1000018,1000019,1000020,1000030,1000031,1000032,1000033,1000034,1000036,1000037,1000038,1000039,1000040,1000041,1000042,1000044,1000068,1000070,1000072,1000073] Tryz.func4 ?_
   repeat'((conv=>whnf);first|(try(first|apply eN|apply eI|apply eC);conv=>whnf);apply sD;(focus(try intro hc;have hc0:=hc;(try simp only[SPLT]at hc);try refine and0 ?_);first|exact gx h1|exact gx h3|exact gx g5|exact gx h7|(refine gx (law24_go ?_ ?_ ?_ ?_ ?_ ?_)<;>exact pre)|(refine gx (textP_sem ?_)<;>exact pre)|(refine gx (readP ?_ ?_)<;>exact pre)|(refine gx (bgm_text )<;>exact pre)|(refine gx (readP_sem ?_ ?_ ?_ ?_)<;>exact pre)|(refine gx (awake4_sem )<;>exact pre)|exact sideG)|apply rR|apply rE|apply rH| (apply cD<;>intro hb<;>(try simp only[SPLT]at hb)<;>try exact noB))
   all_goals try exact false
   repeat' ((conv=>whnf);first|exact endR|with_reducible first|apply And.intro|apply oR|apply oN|apply dC)
   all_goals (conv=>whnf)
   try exact rle_bool (by first|rfl|simp)
  ·have h4:=h4 he
   unfold zeroC at h4
   cases h4
   refine si [7,10,1000016,1000018,1000019,1000020,1000030,1000031,1000032,1000033,1000034,1000036,1000037,1000038,1000039,1000040,1000041,1000042,1000044,1000068,1000070,1000072,1000073] Tryz.func4 ?_
   repeat'((conv=>whnf);first|(try(first|apply eN|apply eI|apply eC);conv=>whnf);apply sD;(focus(try intro hc;have hc0:=hc;(try simp only[SPLT]at hc);try refine and0 ?_);first|exact gx h1|exact gx h3|exact gx h7|(refine gx (law24_go ?_ ?_ ?_ ?_ ?_ ?_)<;>exact pre)|(refine gx (textP_sem ?_)<;>exact pre)|(refine gx (readP ?_ ?_)<;>exact pre)|(refine gx (bgm_text )<;>exact pre)|(refine gx (readP_sem ?_ ?_ ?_ ?_)<;>exact pre)|(refine gx (awake4_sem )<;>exact pre)|exact sideG)|apply rR|apply rE|apply rH| (apply cD<;>intro hb<;>(try simp only[SPLT]at hb)<;>try exact noB))
   all_goals try exact false
   repeat' ((conv=>whnf);first|exact endR|with_reducible first|apply And.intro|apply oR|apply oN|apply dC)
   all_goals (conv=>whnf)
   try exact rle_bool (by first|rfl|simp)
theorem law24_sem (c:Cond) (s:Str) (hmax:s.length≤9223372036854775807):Sem Tryz.prog 4 [.agg c.row,.str s] (.bool true):=by
 refine law24_go c s (textN c) (c,0,0) (readN s (pcS (s.length+1) s (0,false))) (s,0) (textP_sem c) (fun h=>⟨rfl,?_⟩) (readP s hmax) read_zero fun h=>⟨rfl,?_⟩
 ·unfold textN at h ⊢
  split at h
  ·rename_i he
   exact absurd h he
  ·rename_i he
   have he:c.err=0:=by simpa using he
   split at h
   ·cases h
   ·rename_i hl
    rw [if_neg (by simpa using he),if_neg hl]
    have:=readP c.text (text_len c he)
    rw [read_text he (by omega)] at this
    exact this
 ·obtain ⟨g1,g2,g3⟩:=text_read h
  have:=textP_sem (readN s (pcS (s.length+1) s (0,false))).1
  unfold textN at this
  rw [if_neg (by simpa using g1),g2,if_neg (by omega)] at this
  exact this
end Go.Proofs.YtindehjiaknokaaGreatDoor
