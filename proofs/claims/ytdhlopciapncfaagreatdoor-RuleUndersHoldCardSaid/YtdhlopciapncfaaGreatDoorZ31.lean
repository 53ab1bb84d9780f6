/- Search with functions that were made: texts, lists of branches (walks). -/
import Derived.Test.YtdhlopciapncfaaGreatDoorZ30
import Derived.Test.YtdhlopciapncfaaGreatDoorZ17
namespace Go.Proofs.YtdhlopciapncfaaGreatDoor
set_option linter.unusedSimpArgs false
set_option linter.unusedVariables false
open Go.RowKit
set_option maxRecDepth 100000
set_option maxHeartbeats 1000000
theorem indexFuncT_sem (l:List Str) (f:Nat) (cp:List D) (q:Str→Bool) (hq:∀ a ∈ l,Sem Tryz.prog f [.str a,.ptr cp] (.bool (q a))):Sem Tryz.prog 54 [.sl 0 1 (l.map fun s => [.str s]),.fn f [.ptr cp]] (.int .i64 (idxG q l 0)):=by
 refine sem_len 0 rfl rfl fun hl => ?_
 rw [List.length_map] at hl
 have hll:(l.map fun s => [D.str s]).length=l.length:=List.length_map _
 refine si [1000016,1000021,1000047] Tryz.func54 ?_
 repeat'((conv=>whnf);first|(try(first|apply eN|apply eI|apply eC);conv=>whnf);apply sD;(focus first|exact side)|apply rR|apply rE|apply rH| (apply cD<;>intro hb<;>(try simp only[SPLT]at hb)<;>try exact noB))
 all_goals try exact false
 refine loop_go (M:=fun t=>mem t [1000016,1000021,1000047]) hT hM (fun k:Nat => [(8,.int .i64 k)]) (fun k=>k≤l.length∧idxG q (l.drop k) k=idxG q l 0) (fun k=>l.length - k) (0) ?_ ?_ ?_
 ·exact finF
 ·exact ⟨Nat.zero_le _,rfl⟩
 ·rintro k ⟨hk,hi⟩
  rcases hx:l[k]? with _|a
  ·have hk':k=l.length:=by have:=List.getElem?_eq_none_iff.1 hx;omega
   subst hk'
   rw [List.drop_length] at hi
   repeat'((conv=>whnf);first|(try(first|apply eN|apply eI|apply eC);conv=>whnf);apply sD;(focus first|exact side)|apply rR|apply rE|apply rH| (apply cD<;>intro hb<;>(try simp only[SPLT]at hb)<;>try exact noB))
   all_goals try exact false
   repeat' ((conv=>whnf);first|exact endR|with_reducible first|apply And.intro|apply oR|apply oN|apply dC)
   all_goals (conv=>whnf)
   exact rle_int hi
  ·have hlt:=(gLt hx)
   have hc:=hq a (gMem hx)
   rw [idxG_at hx] at hi
   generalize q a=b at hc hi
   repeat'((conv=>whnf);first|(try(first|apply eN|apply eI|apply eC);conv=>whnf);apply sD;(focus first|exact gx hc|exact side)|apply rR|apply rE|apply rH| (apply cD<;>intro hb<;>(try simp only[SPLT]at hb)<;>try exact noB))
   all_goals try exact false
   ·repeat' ((conv=>whnf);first|exact endR|with_reducible first|apply And.intro|apply oR|apply oN|apply dC)
    all_goals (conv=>whnf)
    exact rle_int (by rw [← hi,if_pos hb])
   ·refine ⟨k+1,⟨by omega,by rw [← hi,if_neg (by simp [hb])]⟩,by omega,?_⟩
    exact finF
theorem containsFuncT_sem (l:List Str) (f:Nat) (cp:List D) (q:Str→Bool) (hq:∀ a ∈ l,Sem Tryz.prog f [.str a,.ptr cp] (.bool (q a))):Sem Tryz.prog 30 [.sl 0 1 (l.map fun s => [.str s]),.fn f [.ptr cp]] (.bool (l.any q)):=by
 have hI:=indexFuncT_sem l f cp q hq
 refine si [1000016,1000021,1000047] Tryz.func30 ?_
 repeat'((conv=>whnf);first|(try(first|apply eN|apply eC);conv=>whnf);apply sD;(focus first|exact gx hI|(refine gx (indexFuncT_sem ?_ ?_ ?_ ?_ ?_)<;>exact pre)|(refine gx (indexFuncS_sem ?_ ?_ ?_ ?_ ?_)<;>exact pre)|exact side)|apply rR|apply rE|apply rH| (apply cD<;>intro hb<;>(try simp only[SPLT]at hb)<;>try exact noB))
 all_goals try exact false
 repeat' ((conv=>whnf);first|exact endR|with_reducible first|apply And.intro|apply oR|apply oN|apply dC)
 all_goals (conv=>whnf)
 exact rle_bool (idxG_any q l 0 (by omega))
theorem indexFuncL_sem (l:List (List Br)) (f:Nat) (cp:List D) (q:List Br→Bool) (hq:∀ a ∈ l,Sem Tryz.prog f [.sl 0 4 (a.map Br.row),.ptr cp] (.bool (q a))):Sem Tryz.prog 49 [.sl 0 1 (l.map klR),.fn f [.ptr cp]] (.int .i64 (idxG q l 0)):=by
 refine sem_len 0 rfl rfl fun hl => ?_
 rw [List.length_map] at hl
 have hll:(l.map klR).length=l.length:=List.length_map _
 refine si [1000016,1000021,1000047] Tryz.func49 ?_
 repeat'((conv=>whnf);first|(try(first|apply eN|apply eI|apply eC);conv=>whnf);apply sD;(focus first|exact side)|apply rR|apply rE|apply rH| (apply cD<;>intro hb<;>(try simp only[SPLT]at hb)<;>try exact noB))
 all_goals try exact false
 refine loop_go (M:=fun t=>mem t [1000016,1000021,1000047]) hT hM (fun k:Nat => [(8,.int .i64 k)]) (fun k=>k≤l.length∧idxG q (l.drop k) k=idxG q l 0) (fun k=>l.length - k) (0) ?_ ?_ ?_
 ·exact finF
 ·exact ⟨Nat.zero_le _,rfl⟩
 ·rintro k ⟨hk,hi⟩
  rcases hx:l[k]? with _|a
  ·have hk':k=l.length:=by have:=List.getElem?_eq_none_iff.1 hx;omega
   subst hk'
   rw [List.drop_length] at hi
   repeat'((conv=>whnf);first|(try(first|apply eN|apply eI|apply eC);conv=>whnf);apply sD;(focus first|exact side)|apply rR|apply rE|apply rH| (apply cD<;>intro hb<;>(try simp only[SPLT]at hb)<;>try exact noB))
   all_goals try exact false
   repeat' ((conv=>whnf);first|exact endR|with_reducible first|apply And.intro|apply oR|apply oN|apply dC)
   all_goals (conv=>whnf)
   exact rle_int hi
  ·have hlt:=(gLt hx)
   have hc:=hq a (gMem hx)
   rw [idxG_at hx] at hi
   generalize q a=b at hc hi
   repeat'((conv=>whnf);first|(try(first|apply eN|apply eI|apply eC);conv=>whnf);apply sD;(focus first|(exact idx_kl hx rfl)|exact gx hc|exact side)|apply rR|apply rE|apply rH| (apply cD<;>intro hb<;>(try simp only[SPLT]at hb)<;>try exact noB))
   all_goals try exact false
   ·repeat' ((conv=>whnf);first|exact endR|with_reducible first|apply And.intro|apply oR|apply oN|apply dC)
    all_goals (conv=>whnf)
    exact rle_int (by rw [← hi,if_pos hb])
   ·refine ⟨k+1,⟨by omega,by rw [← hi,if_neg (by simp [hb])]⟩,by omega,?_⟩
    exact finF
theorem containsFuncL_sem (l:List (List Br)) (f:Nat) (cp:List D) (q:List Br→Bool) (hq:∀ a ∈ l,Sem Tryz.prog f [.sl 0 4 (a.map Br.row),.ptr cp] (.bool (q a))):Sem Tryz.prog 25 [.sl 0 1 (l.map klR),.fn f [.ptr cp]] (.bool (l.any q)):=by
 have hI:=indexFuncL_sem l f cp q hq
 refine si [1000016,1000021,1000047] Tryz.func25 ?_
 repeat'((conv=>whnf);first|(try(first|apply eN|apply eC);conv=>whnf);apply sD;(focus first|exact gx hI|(refine gx (indexFuncL_sem ?_ ?_ ?_ ?_ ?_)<;>exact pre)|exact side)|apply rR|apply rE|apply rH| (apply cD<;>intro hb<;>(try simp only[SPLT]at hb)<;>try exact noB))
 all_goals try exact false
 repeat' ((conv=>whnf);first|exact endR|with_reducible first|apply And.intro|apply oR|apply oN|apply dC)
 all_goals (conv=>whnf)
 exact rle_bool (idxG_any q l 0 (by omega))
end Go.Proofs.YtdhlopciapncfaaGreatDoor
