/- Each arrival is passed on once: the law's walk. -/
import Derived.Test.YtalejlbiccdfjaaDoorZ10
import Derived.Test.YtalejlbiccdfjaaDoorZ14
namespace Go.Proofs.YtalejlbiccdfjaaDoor
set_option linter.unusedSimpArgs false
set_option linter.unusedVariables false
open Go.RowKit
set_option maxRecDepth 100000
set_option maxHeartbeats 4000000
theorem next19_sem:Sem Tryd.prog 19 [.agg [.int .i64 1,.int .i64 9],.int .i64 9] (.tup [.int .i64 1,.int .i64 0]):=by
 have c:Sem Tryd.prog 32 [.agg [.int .i64 1,.int .i64 9]] (.int .i64 0):=checkSeries_sem ⟨1,9⟩
 have i:Sem Tryd.prog 33 [.agg [.int .i64 1,.int .i64 9],.int .i64 9] (.bool true):=isOf_sem ⟨1,9⟩ 9
 refine si [1000028,1000035,1000036,1000043,1000044,1000046] Tryd.func19 ?_
 repeat'((conv=>whnf);first|(try(first|apply eN|apply eI|apply eC);conv=>whnf);apply sD;(focus first|exact gx c|exact gx i|(refine gx (checkSeries_sem ?_)<;>exact pre)|(refine gx (isOf_sem ?_ ?_)<;>exact pre)|exact side)|apply rR|apply rE|apply rH| (apply cD<;>intro hb<;>(try simp only[SPLT]at hb)<;>try exact noB))
 all_goals try exact false
 exact finR
theorem awake_sem:Sem Tryd.prog 7 [] (.bool true):=by
 refine si [1000028,1000035,1000036,1000043,1000044,1000046] Tryd.func7 ?_
 repeat'((conv=>whnf);first|(try(first|apply eN|apply eC);conv=>whnf);apply sD;(focus(try intro hc;have hc0:=hc;(try simp only[SPLT]at hc);try refine and0 ?_);first|exact gx next19_sem|exact sideG)|apply rR|apply rE|apply rH| (apply cD<;>intro hb<;>(try simp only[SPLT]at hb)<;>try exact noB))
 all_goals try exact false
 exact finR
theorem dropAt {α:Type} {l:List α} {k:Nat} {a:α} (h:l[k]?=some a):l.drop k=a::l.drop (k+1):=by
 obtain ⟨hlt,rfl⟩:=List.getElem?_eq_some_iff.1 h
 exact List.drop_eq_getElem_cons hlt
theorem equalI_sem (x y:List Int) (hx:x.length≤1000000) (hy:y.length≤1000000):Sem Tryd.prog 9 [.sl 0 1 (numRows x),.sl 0 1 (numRows y)] (.bool (x == y)):=by
 have hxl:(numRows x).length=x.length:=List.length_map _
 have hyl:(numRows y).length=y.length:=List.length_map _
 refine si [1000028,1000035,1000036,1000043,1000044,1000046] Tryd.func9 ?_
 repeat'((conv=>whnf);first|(try(first|apply eN|apply eI|apply eC);conv=>whnf);apply sD;(focus first|exact side)|(first|apply dG|apply kB);kernel_rfl|apply rR|apply rE|apply rH| (apply cD<;>intro hb<;>(try simp only[SPLT]at hb)<;>try exact noB))
 all_goals try exact false
 ·repeat' ((conv=>whnf);first|exact endR|with_reducible first|apply And.intro|apply oR|apply oN|apply dC)
  all_goals (conv=>whnf)
  refine rle_bool ?_
  have:x ≠ y:=fun e=>by subst e;exact hb rfl
  simpa using this
 ·have hxy:x.length=y.length:=by first|omega|(simp at hb;omega)
  refine loop_go (M:=fun t=>mem t [1000028,1000035,1000036,1000043,1000044,1000046]) hT hM (fun k:Nat => [(13,.int .i64 k)]) (fun k=>k≤x.length∧(x == y)=(x.drop k == y.drop k)) (fun k=>x.length - k) (0) ?_ ?_ ?_
  ·exact finF
  ·exact ⟨Nat.zero_le _,by simp⟩
  ·rintro k ⟨hk,hrest⟩
   rcases hxk:x[k]? with _|n
   ·have hk':k=x.length:=by have:=List.getElem?_eq_none_iff.1 hxk;omega
    subst hk'
    repeat'((conv=>whnf);first|(try(first|apply eN|apply eI|apply eC);conv=>whnf);apply sD;(focus first|exact side)|(first|apply dG|apply kB);kernel_rfl|apply rR|apply rE|apply rH| (apply cD<;>intro hb<;>(try simp only[SPLT]at hb)<;>try exact noB))
    all_goals try exact false
    repeat' ((conv=>whnf);first|exact endR|with_reducible first|apply And.intro|apply oR|apply oN|apply dC)
    all_goals (conv=>whnf)
    refine rle_bool ?_
    rw [hrest]
    simp [hxy]
   ·have hlt:=(gLt hxk)
    obtain ⟨m,hyk⟩:∃ m,y[k]?=some m:=⟨y[k],List.getElem?_eq_getElem (by omega)⟩
    have hlty:=(gLt hyk)
    rw [dropAt hxk,dropAt hyk] at hrest
    repeat'((conv=>whnf);first|(try(first|apply eN|apply eI|apply eC);conv=>whnf);apply sD;(focus first|(exact idx_eq (f:=fun n => [D.int .i64 n]) hxk rfl)|(exact idx_eq (f:=fun n => [D.int .i64 n]) hyk rfl)|exact side)|(first|apply dG|apply kB);kernel_rfl|apply rR|apply rE|apply rH| (apply cD<;>intro hb<;>(try simp only[SPLT]at hb)<;>try exact noB))
    all_goals try exact false
    ·repeat' ((conv=>whnf);first|exact endR|with_reducible first|apply And.intro|apply oR|apply oN|apply dC)
     all_goals (conv=>whnf)
     refine rle_bool ?_
     rw [hrest]
     simp [hb]
    ·refine ⟨k+1,⟨by omega,?_⟩,by omega,?_⟩
     ·rw [hrest]
      simp [hb]
     ·exact finF
end Go.Proofs.YtalejlbiccdfjaaDoor
