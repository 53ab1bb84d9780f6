/- Conditions: what is wrong with one by itself (walks). -/
import Derived.Test.YtindehjiaknokaaGreatDoorY10
namespace Go.Proofs.YtindehjiaknokaaGreatDoor
set_option linter.unusedSimpArgs false
set_option linter.unusedVariables false
open Go.RowKit
set_option maxRecDepth 100000
set_option maxHeartbeats 2000000
def usesOfB (k:Int):Bool:=k == 1 || k == 2 || k == 3 || k == 7 || k == 8
def overB (k:Int):Bool:=k == 7 || k == 8
theorem usesOf_sem (k:Int):Sem Tryz.prog 53 [.int .i64 k] (.agg [.bool (usesOfB k),.bool (decide (4≤k)),.bool (k == 5),.bool (k == 6 || k == 9)]):=by
 refine si [2] Tryz.func53 ?_
 repeat'((conv=>whnf);first|(try(first|apply eN|apply eI);conv=>whnf);apply sD;(focus(try intro hc;have hc0:=hc;(try simp only[SPLT]at hc);try refine and0 ?_);first|exact sideG)|apply rR|apply rE|apply rH| (apply cD<;>intro hb<;>(try simp only[SPLT]at hb)<;>try exact noB))
 all_goals try exact false
 repeat' ((conv=>whnf);first|exact endR|with_reducible first|apply And.intro|apply oR|apply oN|apply dC)
 all_goals (conv=>whnf)
 (first|refine rle_agg ?_|refine dle_agg ?_|skip)
 repeat' (first|exact endF|(exact dle_bool rfl)|exact endF2|with_reducible apply dC|with_reducible apply dle_agg)
theorem isOver_sem (k:Int):Sem Tryz.prog 54 [.int .i64 k] (.bool (overB k)):=by
 refine si [] Tryz.func54 ?_
 repeat'((conv=>whnf);first|(try(first|apply eN);conv=>whnf);apply sD;(focus(try intro hc;have hc0:=hc;(try simp only[SPLT]at hc);try refine and0 ?_);first|exact sideG)|apply rR|apply rE|apply rH| (apply cD<;>intro hb<;>(try simp only[SPLT]at hb)<;>try exact noB))
 all_goals try exact false
 exact finR
def formB (k:Int) (nk:Nat) (p:Str) (nv:Nat) (lo hi:Int):Bool:=
 (!usesOfB k && decide (0 < nk)) || (!decide (4≤k) && !(p == [])) || (!(k == 5) && decide (0 < nv)) || (!(k == 6 || k == 9) && (!(lo == 0) || !(hi == 0))) || (usesOfB k && (nk == 0 || ((k == 3 || overB k) && !(nk == 1))))
theorem formFault_sem (k:Int) (rows:List (List D)) (p:Str) (vs:List (List D)) (lo hi:Int):Sem Tryz.prog 52 [.agg [.int .i64 k,.sl 0 6 rows,.str p,.sl 0 1 vs,.int .i64 lo,.int .i64 hi]] (.bool (formB k rows.length p vs.length lo hi)):=by
 have hu:=usesOf_sem k
 have ho:=isOver_sem k
 have hf:formB k rows.length p vs.length lo hi=((!usesOfB k && decide (0 < rows.length)) || (!decide (4≤k) && !(p == [])) || (!(k == 5) && decide (0 < vs.length)) || (!(k == 6 || k == 9) && (!(lo == 0) || !(hi == 0))) || (usesOfB k && (rows.length == 0 || ((k == 3 || overB k) && !(rows.length == 1))))):=rfl
 generalize formB k rows.length p vs.length lo hi=r at hf ⊢
 generalize usesOfB k=u at hu hf
 generalize overB k=o at ho hf
 refine si [] Tryz.func52 ?_
 repeat'((conv=>whnf);first|(try(first|apply eN|apply eI|apply eC);conv=>whnf);apply sD;(focus(try intro hc;have hc0:=hc;(try simp only[SPLT]at hc);try refine and0 ?_);first|exact gx hu|exact gx ho|(refine gx (usesOf_sem ?_)<;>exact pre)|(refine gx (isOver_sem ?_)<;>exact pre)|exact sideG)|apply rR|apply rE|apply rH| (apply cD<;>intro hb<;>(try simp only[SPLT]at hb)<;>try exact noB))
 all_goals try exact false
 ·repeat' ((conv=>whnf);first|exact endR|with_reducible first|apply And.intro|apply oR|apply oN|apply dC)
  all_goals (conv=>whnf)
  refine rle_bool ?_
  rw [hf]
  clear hf hu ho
  by_cases hp:p = []<;>cases u<;>cases o<;>simp [hp] at hb ⊢<;>omega
 ·repeat' ((conv=>whnf);first|exact endR|with_reducible first|apply And.intro|apply oR|apply oN|apply dC)
  all_goals (conv=>whnf)
  refine rle_bool ?_
  rw [hf]
  clear hf hu ho
  have e0:((rows.length:Int) == 0)=(rows.length == 0):=by rw [Bool.eq_iff_iff];simp
  have e1:((rows.length:Int) == 1)=(rows.length == 1):=by rw [Bool.eq_iff_iff];simp;omega
  rw [e0,e1]
  have:((!u && decide (0 < rows.length)) || (!decide (4≤k) && !(p == [])) || (!(k == 5) && decide (0 < vs.length)) || (!(k == 6 || k == 9) && (!(lo == 0) || !(hi == 0))))=false:=by
   by_cases hp:p = []<;>cases u<;>by_cases h4:4≤k<;>by_cases h5:k=5<;>by_cases h6:k=6<;>by_cases h9:k=9<;>simp_all<;>omega
  rw [this,Bool.false_or]
end Go.Proofs.YtindehjiaknokaaGreatDoor
