/- Under: the program's and the reference's (walks). -/
import Derived.Test.YtdhlopciapncfaaGreatDoorZ24
import Derived.Test.YtdhlopciapncfaaGreatDoorZ27
namespace Go.Proofs.YtdhlopciapncfaaGreatDoor
set_option linter.unusedSimpArgs false
set_option linter.unusedVariables false
open Go.RowKit
set_option maxRecDepth 100000
set_option maxHeartbeats 4000000
def eachC (p:Str) (c:Cond):Cond:=.mk 7 [c] p [] 0 0
def underN (c:Cond) (path:Str):Cond × Int:=
 if c.err ≠ 0 then (noneC,c.err) else if groupsErr path ≠ 0 then (noneC,groupsErr path) else if path = [] then (c,0) else if (eachC path c).err ≠ 0 then (noneC,(eachC path c).err) else (eachC path c,0)
theorem err_nice {c:Cond} (ht:c.Txt) (h:c.err=0):c.Nice 200:=(chk_ok c 0 0 (by omega) (by omega) ht h).2
theorem under_sem (c:Cond) (path:Str) (ht:c.Txt):Sem Tryz.prog 4 [.agg c.row,.str path] (.tup [.agg (underN c path).1.row,.int .i64 (underN c path).2]):=by
 have h1:=checkCond_sem c
 have h2:=checkGroups_sem path
 have h3:=fun h:c.err=0=>cloneCond_sem c (nice_small (by omega) c (err_nice ht h))
 have h4:=checkCond_sem (eachC path c)
 unfold underN
 generalize groupsErr path=ge at h2 ⊢
 rw [eachC] at h4 ⊢
 generalize (Cond.mk 7 [c] path [] 0 0).err=e2 at h4 ⊢
 generalize c.err=e1 at h1 h3 ⊢
 obtain ⟨k,ks,p,vs,lo,hi⟩:=c
 rw [Cond.row_mk,List.map_cons,List.map_nil,List.map_nil] at h4
 rw [Cond.row_mk] at h1 h3 h4 ⊢
 replace h4:=Sem.weak (args' := [.agg [.int .i64 7,.sl 0 6 [[.int .i64 k,.sl 0 6 (ks.map Cond.row),.str p,.sl 0 1 (vs.map fun s => [.str s]),.int .i64 lo,.int .i64 hi]],.str path,.nil,.int .i64 0,.int .i64 0]]) h4 (.cons (dle_agg (.cons (.refl _) (.cons (.refl _) (.cons (.refl _) (.cons (.nil _ _) (.cons (.refl _) (.cons (.refl _) .nil))))))) .nil)
 by_cases g1:e1=0
 ·subst g1
  have h3:=h3 rfl
  rw [if_neg (by simp)]
  by_cases g2:ge=0
  ·subst g2
   rw [if_neg (by simp)]
   by_cases g3:path = []
   ·subst g3
    rw [if_pos rfl]
    rw [Cond.row_mk]
    refine si [4,8,1000016] Tryz.func4 ?_
    repeat'((conv=>whnf);first|(try(first|apply eN|apply eI|apply eC);conv=>whnf);apply sD;(focus first|exact gx h1|exact gx h2|exact gx h3|(refine gx (checkCond_sem ?_)<;>exact pre)|(refine gx (bgm_check )<;>exact pre)|(refine gx (checkGroups_sem ?_)<;>exact pre)|exact side)|apply rR|apply rE|apply rH| (apply cD<;>intro hb<;>(try simp only[SPLT]at hb)<;>try exact noB))
    all_goals try exact false
    repeat' ((conv=>whnf);first|exact endR|with_reducible first|apply And.intro|apply oR|apply oN|apply dC)
    all_goals (conv=>whnf)
    (first|refine rle_agg ?_|refine dle_agg ?_|skip)
    repeat' (first|exact endF|exact endF2|with_reducible apply dC|with_reducible apply dle_agg)
   ·rw [if_neg g3]
    by_cases g4:e2=0
    ·subst g4
     rw [if_neg (by simp),Cond.row_mk]
     simp only [List.map_cons,List.map_nil,Cond.row_mk]
     refine si [4,8,1000016] Tryz.func4 ?_
     repeat'((conv=>whnf);first|(try(first|apply eN|apply eI|apply eC);conv=>whnf);apply sD;(focus first|exact gx h1|exact gx h2|exact gx h3|exact gx h4|(refine gx (checkCond_sem ?_)<;>exact pre)|(refine gx (bgm_check )<;>exact pre)|(refine gx (checkGroups_sem ?_)<;>exact pre)|exact side)|apply rR|apply rE|apply rH| (apply cD<;>intro hb<;>(try simp only[SPLT]at hb)<;>try exact noB))
     all_goals try exact false
     repeat' ((conv=>whnf);first|exact endR|with_reducible first|apply And.intro|apply oR|apply oN|apply dC)
     all_goals (conv=>whnf)
     (first|refine rle_agg ?_|refine dle_agg ?_|skip)
     repeat' (first|exact endF|exact endF2|with_reducible apply dC|with_reducible apply dle_agg)
    ·rw [if_pos g4]
     dsimp only
     rw [noneC,Cond.row_mk]
     refine si [4,8,1000016] Tryz.func4 ?_
     repeat'((conv=>whnf);first|(try(first|apply eN|apply eI|apply eC);conv=>whnf);apply sD;(focus first|exact gx h1|exact gx h2|exact gx h3|exact gx h4|(refine gx (checkCond_sem ?_)<;>exact pre)|(refine gx (bgm_check )<;>exact pre)|(refine gx (checkGroups_sem ?_)<;>exact pre)|exact side)|apply rR|apply rE|apply rH| (apply cD<;>intro hb<;>(try simp only[SPLT]at hb)<;>try exact noB))
     all_goals try exact false
     repeat' ((conv=>whnf);first|exact endR|with_reducible first|apply And.intro|apply oR|apply oN|apply dC)
     all_goals (conv=>whnf)
     (first|refine rle_agg ?_|refine dle_agg ?_|skip)
     repeat' (first|exact endF|exact endF2|with_reducible apply dC|with_reducible apply dle_agg)
  ·rw [if_pos g2]
   dsimp only
   rw [noneC,Cond.row_mk]
   refine si [4,8,1000016] Tryz.func4 ?_
   repeat'((conv=>whnf);first|(try(first|apply eN|apply eI|apply eC);conv=>whnf);apply sD;(focus first|exact gx h1|exact gx h2|(refine gx (checkCond_sem ?_)<;>exact pre)|(refine gx (bgm_check )<;>exact pre)|(refine gx (checkGroups_sem ?_)<;>exact pre)|exact side)|apply rR|apply rE|apply rH| (apply cD<;>intro hb<;>(try simp only[SPLT]at hb)<;>try exact noB))
   all_goals try exact false
   repeat' ((conv=>whnf);first|exact endR|with_reducible first|apply And.intro|apply oR|apply oN|apply dC)
   all_goals (conv=>whnf)
   (first|refine rle_agg ?_|refine dle_agg ?_|skip)
   repeat' (first|exact endF|exact endF2|with_reducible apply dC|with_reducible apply dle_agg)
 ·rw [if_pos g1]
  dsimp only
  rw [noneC,Cond.row_mk]
  refine si [4,8,1000016] Tryz.func4 ?_
  repeat'((conv=>whnf);first|(try(first|apply eN|apply eI|apply eC);conv=>whnf);apply sD;(focus first|exact gx h1|exact gx h2|(refine gx (checkCond_sem ?_)<;>exact pre)|(refine gx (bgm_check )<;>exact pre)|(refine gx (checkGroups_sem ?_)<;>exact pre)|exact side)|apply rR|apply rE|apply rH| (apply cD<;>intro hb<;>(try simp only[SPLT]at hb)<;>try exact noB))
  all_goals try exact false
  repeat' ((conv=>whnf);first|exact endR|with_reducible first|apply And.intro|apply oR|apply oN|apply dC)
  all_goals (conv=>whnf)
  (first|refine rle_agg ?_|refine dle_agg ?_|skip)
  repeat' (first|exact endF|exact endF2|with_reducible apply dC|with_reducible apply dle_agg)
end Go.Proofs.YtdhlopciapncfaaGreatDoor
