/- Conditions: what is wrong with one by itself (walks). -/
import Derived.Test.YtnjgoldinaffgaaGreatDoorY14
namespace Go.Proofs.YtnjgoldinaffgaaGreatDoor
open _root_.Go.Proofs.Tryz
set_option linter.unusedSimpArgs false
set_option linter.unusedVariables false
open Go.RowKit
set_option maxRecDepth 100000
set_option maxHeartbeats 2000000
def iL (k:Int):Bool:=k == 1 || k == 2 || k == 3 || k == 7 || k == 8
def nY (k:Int):Bool:=k == 7 || k == 8
theorem mH (k:Int):Sem Tryz.prog 215 [.int .i64 k] (.agg [.bool (iL k),.bool (decide (4≤k)),.bool (k == 5),.bool (k == 6 || k == 9)]):=by
 refine si [2] func215 ?_
 repeat'((conv=>whnf);first|(try(first|apply eN|apply eI);conv=>whnf);apply sD;(focus(try intro hc;have hc0:=hc;(try simp only[aA]at hc);try refine aE ?_);first|exact aC)|apply rR|apply rE|apply rH| (apply cD<;>intro hb<;>(try simp only[aA]at hb)<;>try exact aM))
 all_goals try exact false
 repeat' ((conv=>whnf);first|exact aI|with_reducible first|apply And.intro|apply oR|apply oN|apply dC)
 all_goals (conv=>whnf)
 (first|refine aG ?_|refine aB ?_|skip)
 repeat' (first|exact bE|(exact zKv rfl)|exact aO|with_reducible apply dC|with_reducible apply aB)
theorem nA (k:Int):Sem Tryz.prog 216 [.int .i64 k] (.bool (nY k)):=by
 refine si [] func216 ?_
 repeat'((conv=>whnf);first|(try(first|apply eN);conv=>whnf);apply sD;(focus(try intro hc;have hc0:=hc;(try simp only[aA]at hc);try refine aE ?_);first|exact aC)|apply rR|apply rE|apply rH| (apply cD<;>intro hb<;>(try simp only[aA]at hb)<;>try exact aM))
 all_goals try exact false
 exact aT
def oW (k:Int) (nk:Nat) (p:Str) (nv:Nat) (lo hi:Int):Bool:=
 (!iL k && decide (0 < nk)) || (!decide (4≤k) && !(p == [])) || (!(k == 5) && decide (0 < nv)) || (!(k == 6 || k == 9) && (!(lo == 0) || !(hi == 0))) || (iL k && (nk == 0 || ((k == 3 || nY k) && !(nk == 1))))
theorem qJ (k:Int) (rows:List (List D)) (p:Str) (vs:List (List D)) (lo hi:Int):Sem Tryz.prog 214 [.agg [.int .i64 k,.sl 0 6 rows,.str p,.sl 0 1 vs,.int .i64 lo,.int .i64 hi]] (.bool (oW k rows.length p vs.length lo hi)):=by
 have hu:=mH k
 have ho:=nA k
 have hf:oW k rows.length p vs.length lo hi=((!iL k && decide (0 < rows.length)) || (!decide (4≤k) && !(p == [])) || (!(k == 5) && decide (0 < vs.length)) || (!(k == 6 || k == 9) && (!(lo == 0) || !(hi == 0))) || (iL k && (rows.length == 0 || ((k == 3 || nY k) && !(rows.length == 1))))):=rfl
 generalize oW k rows.length p vs.length lo hi=r at hf ⊢
 generalize iL k=u at hu hf
 generalize nY k=o at ho hf
 refine si [] func214 ?_
 repeat'((conv=>whnf);first|(try(first|apply eN|apply eI|apply eC);conv=>whnf);apply sD;(focus(try intro hc;have hc0:=hc;(try simp only[aA]at hc);try refine aE ?_);first|exact gx hu|exact gx ho|(refine gx (mH ?_)<;>exact pre)|(refine gx (nA ?_)<;>exact pre)|exact aC)|apply rR|apply rE|apply rH| (apply cD<;>intro hb<;>(try simp only[aA]at hb)<;>try exact aM))
 all_goals try exact false
 ·repeat' ((conv=>whnf);first|exact aI|with_reducible first|apply And.intro|apply oR|apply oN|apply dC)
  all_goals (conv=>whnf)
  refine aS ?_
  rw [hf]
  clear hf hu ho
  by_cases hp:p = []<;>cases u<;>cases o<;>simp [hp] at hb ⊢<;>omega
 ·repeat' ((conv=>whnf);first|exact aI|with_reducible first|apply And.intro|apply oR|apply oN|apply dC)
  all_goals (conv=>whnf)
  refine aS ?_
  rw [hf]
  clear hf hu ho
  have e0:((rows.length:Int) == 0)=(rows.length == 0):=by rw [Bool.eq_iff_iff];simp
  have e1:((rows.length:Int) == 1)=(rows.length == 1):=by rw [Bool.eq_iff_iff];simp;omega
  rw [e0,e1]
  have:((!u && decide (0 < rows.length)) || (!decide (4≤k) && !(p == [])) || (!(k == 5) && decide (0 < vs.length)) || (!(k == 6 || k == 9) && (!(lo == 0) || !(hi == 0))))=false:=by
   by_cases hp:p = []<;>cases u<;>by_cases h4:4≤k<;>by_cases h5:k=5<;>by_cases h6:k=6<;>by_cases h9:k=9<;>simp_all<;>omega
  rw [this,Bool.false_or]
end Go.Proofs.YtnjgoldinaffgaaGreatDoor
