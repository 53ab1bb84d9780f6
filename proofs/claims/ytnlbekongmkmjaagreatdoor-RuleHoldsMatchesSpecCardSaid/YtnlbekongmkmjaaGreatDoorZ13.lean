/- Conditions are compared, and looked for in lists (walks). -/
import Derived.Test.YtnlbekongmkmjaaGreatDoorZ12
import Derived.Test.YtnlbekongmkmjaaGreatDoorZ11
namespace Go.Proofs.YtnlbekongmkmjaaGreatDoor
set_option linter.unusedSimpArgs false
set_option linter.unusedVariables false
open Go.RowKit
set_option maxRecDepth 100000
set_option maxHeartbeats 4000000
theorem equalS_sem (l m:List Str):Sem Tryz.prog 9 [.sl 0 1 (l.map fun s => [.str s]),.sl 0 1 (m.map fun s => [.str s])] (.bool (decide (l=m))):=by
 refine sem_len 0 rfl rfl fun hl1=>sem_len 1 rfl rfl fun hl2 => ?_
 rw [List.length_map] at hl1 hl2
 have e1:(l.map fun s => [D.str s]).length=l.length:=List.length_map _
 have e2:(m.map fun s => [D.str s]).length=m.length:=List.length_map _
 generalize hr:decide (l=m)=r
 have no:l ≠ m→false=r:=fun h=>by rw [← hr];exact (decide_eq_false h).symm
 have yes:l=m→true=r:=fun h=>by rw [← hr];exact (decide_eq_true h).symm
 clear hr
 refine si [] Tryz.func9 ?_
 repeat'((conv=>whnf);first|(try(first|apply eN|apply eI|apply eC);conv=>whnf);apply sD;(focus first|exact side)|(first|apply dG|apply kB);kernel_rfl|apply rR|apply rE|apply rH|(apply cD<;>intro hb<;>(try simp only[SPLT]at hb)<;>try exact noB))
 all_goals try exact false
 ·repeat' ((conv=>whnf);first|exact endR|with_reducible first|apply And.intro|apply oR|apply oN|apply dC)
  all_goals (conv=>whnf)
  exact rle_bool (no fun h=>by subst h;omega)
 ·refine loop_go (M:=fun t=>mem t []) hT hM (fun i:Nat => [(13,.int .i64 i)]) (fun i=>i≤l.length∧l.take i=m.take i) (fun i=>l.length - i) (0) ?_ ?_ ?_
  ·exact finF
  ·exact ⟨by omega,rfl⟩
  ·rintro i ⟨hi1,hi2⟩
   cases hx:l[i]? with
   |none=>
    have hn:=List.getElem?_eq_none_iff.1 hx
    repeat'((conv=>whnf);first|(try(first|apply eN|apply eI|apply eC);conv=>whnf);apply sD;(focus first|exact side)|(first|apply dG|apply kB);kernel_rfl|apply rR|apply rE|apply rH|(apply cD<;>intro hb<;>(try simp only[SPLT]at hb)<;>try exact noB))
    all_goals try exact false
    repeat' ((conv=>whnf);first|exact endR|with_reducible first|apply And.intro|apply oR|apply oN|apply dC)
    all_goals (conv=>whnf)
    refine rle_bool (yes ?_)
    rw [List.take_of_length_le hn,List.take_of_length_le (by omega)] at hi2
    exact hi2
   |some x=>
    have hlt:=(gLt hx)
    obtain ⟨y,hy⟩:∃ y,m[i]?=some y:=⟨m[i]'(by omega),by simp⟩
    repeat'((conv=>whnf);first|(try(first|apply eN|apply eI|apply eC);conv=>whnf);apply sD;(focus first|(exact idx_eq hx (by omega))|(exact idx_eq hy (by omega))|exact side)|(first|apply dG|apply kB);kernel_rfl|apply rR|apply rE|apply rH|(apply cD<;>intro hb<;>(try simp only[SPLT]at hb)<;>try exact noB))
    all_goals try exact false
    ·repeat' ((conv=>whnf);first|exact endR|with_reducible first|apply And.intro|apply oR|apply oN|apply dC)
     all_goals (conv=>whnf)
     refine rle_bool (no ?_)
     rintro rfl
     rw [hx] at hy
     cases hy
     simp at hb
    ·refine ⟨i+1,⟨by omega,?_⟩,by omega,?_⟩
     ·rw [take_at hx,take_at hy,hi2]
      (try simp at hb)
      rw [hb]
     ·exact finF
end Go.Proofs.YtnlbekongmkmjaaGreatDoor
