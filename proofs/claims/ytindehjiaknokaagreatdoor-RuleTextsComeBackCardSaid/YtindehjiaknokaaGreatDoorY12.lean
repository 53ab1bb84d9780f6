/- Conditions: their ends and their values (walks). Conditions: their values (walk). -/
import Derived.Test.YtindehjiaknokaaGreatDoorY11
namespace Go.Proofs.YtindehjiaknokaaGreatDoor
set_option linter.unusedSimpArgs false
set_option linter.unusedVariables false
open Go.RowKit
set_option maxRecDepth 100000
set_option maxHeartbeats 2000000
def endsErr (k lo hi:Int):Int:=
 if k=9 then (if lo < -1000000000000∨1000000000000 < lo∨hi < -1000000000000∨1000000000000 < hi then 1 else if hi < lo then 8 else 0)
 else (if lo < 0∨1000000000 < lo∨hi < 0∨1000000000 < hi then 1 else if hi < lo then 8 else 0)
theorem endsFault_sem (k:Int) (rows:List (List D)) (p:Str) (vs:List (List D)) (lo hi:Int):Sem Tryz.prog 58 [.agg [.int .i64 k,.sl 0 6 rows,.str p,.sl 0 1 vs,.int .i64 lo,.int .i64 hi]] (.int .i64 (endsErr k lo hi)):=by
 have hf:endsErr k lo hi=if k=9 then (if lo < -1000000000000∨1000000000000 < lo∨hi < -1000000000000∨1000000000000 < hi then 1 else if hi < lo then 8 else 0)
  else (if lo < 0∨1000000000 < lo∨hi < 0∨1000000000 < hi then 1 else if hi < lo then 8 else 0):=rfl
 generalize endsErr k lo hi=r at hf ⊢
 have o1:=outsideK_sem lo (-1000000000000) 1000000000000
 have o2:=outsideK_sem hi (-1000000000000) 1000000000000
 have o3:=outsideK_sem lo 0 1000000000
 have o4:=outsideK_sem hi 0 1000000000
 refine si [] Tryz.func58 ?_
 repeat'((conv=>whnf);first|(try(first|apply eN|apply eI|apply eC);conv=>whnf);apply sD;(focus(try intro hc;have hc0:=hc;(try simp only[SPLT]at hc);try refine and0 ?_);first|exact gx o1|exact gx o2|exact gx o3|exact gx o4|(refine gx (outsideK_sem ?_ ?_ ?_)<;>exact pre)|exact sideG)|apply rR|apply rE|apply rH| (apply cD<;>intro hb<;>(try simp only[SPLT]at hb)<;>try exact noB))
 all_goals try exact false
 all_goals (
  repeat' ((conv=>whnf);first|exact endR|with_reducible first|apply And.intro|apply oR|apply oN|apply dC)
  all_goals (conv=>whnf)
  refine rle_int ?_
  rw [hf]
  split<;>split<;>(try split)<;>omega)
def spanB (a b:Int) (s:Str):Bool:=s.all fun c=>decide (a≤c.toNat) && decide ((c.toNat:Int)≤b)
theorem inBytes_sem (s:Str) (a b:Int) (hs:s.length≤9223372036854775807):Sem Tryz.prog 104 [.str s,.int .u8 a,.int .u8 b] (.bool (spanB a b s)):=by
 have hr:spanB a b s=s.all fun c=>decide (a≤c.toNat) && decide ((c.toNat:Int)≤b):=rfl
 generalize spanB a b s=r at hr ⊢
 refine si [] Tryz.func104 ?_
 repeat'((conv=>whnf);first|(try(first|apply eN|apply eC);conv=>whnf);apply sD;(focus(try intro hc;have hc0:=hc;(try simp only[SPLT]at hc);try refine and0 ?_);first|exact sideG)|apply rR|apply rE|apply rH| (apply cD<;>intro hb<;>(try simp only[SPLT]at hb)<;>try exact noB))
 all_goals try exact false
 refine loop_go (M:=fun t=>mem t []) hT hM (fun k:Nat => [(10,.int .i64 k)]) (fun k=>k≤s.length∧((s.take k).all fun c=>decide (a≤c.toNat) && decide ((c.toNat:Int)≤b))=true) (fun k=>s.length - k) (0) ?_ ?_ ?_
 ·exact finF
 ·exact ⟨by omega,rfl⟩
 ·rintro k ⟨hk,hall⟩
  cases hx:s[k]? with
  |none=>
   have hn:=List.getElem?_eq_none_iff.1 hx
   rw [List.take_of_length_le hn] at hall
   repeat'((conv=>whnf);first|(try(first|apply eN|apply eC);conv=>whnf);apply sD;(focus(try intro hc;have hc0:=hc;(try simp only[SPLT]at hc);try refine and0 ?_);first|exact sideG)|apply rR|apply rE|apply rH| (apply cD<;>intro hb<;>(try simp only[SPLT]at hb)<;>try exact noB))
   all_goals try exact false
   repeat' ((conv=>whnf);first|exact endR|with_reducible first|apply And.intro|apply oR|apply oN|apply dC)
   all_goals (conv=>whnf)
   exact rle_bool (by rw [hr,hall])
  |some x=>
   have hlt:=(gLt hx)
   repeat'((conv=>whnf);first|(try(first|apply eN|apply eC);conv=>whnf);apply sD;(focus(try intro hc;have hc0:=hc;(try simp only[SPLT]at hc);try refine and0 ?_);first|exact sideG)|apply rR|apply rE|apply rH| (apply cD<;>intro hb<;>(try simp only[SPLT]at hb)<;>try exact noB))
   all_goals try exact false
   ·repeat' ((conv=>whnf);first|exact endR|with_reducible first|apply And.intro|apply oR|apply oN|apply dC)
    all_goals (conv=>whnf)
    refine rle_bool (Eq.symm ?_)
    simp [List.getD_eq_getElem?_getD,hx] at hb
    rw [hr,List.all_eq_false]
    exact ⟨x,gMem hx,by simp;omega⟩
   ·refine ⟨k+1,⟨by omega,?_⟩,by omega,?_⟩
    ·simp [List.getD_eq_getElem?_getD,hx] at hb
     rw [take_at hx,List.all_append,hall]
     simp
     omega
    ·exact finF
def textB (s:Str):Bool:=decide (s.length≤1000) && spanB 32 126 s
theorem isText_sem (s:Str) (hs:s.length≤9223372036854775807):Sem Tryz.prog 81 [.str s] (.bool (textB s)):=by
 have h:=inBytes_sem s 32 126 hs
 unfold textB
 generalize spanB 32 126 s=r at h ⊢
 refine si [] Tryz.func81 ?_
 repeat'((conv=>whnf);first|(try(first|apply eN|apply eC);conv=>whnf);apply sD;(focus(try intro hc;have hc0:=hc;(try simp only[SPLT]at hc);try refine and0 ?_);first|exact gx h|(refine gx (inBytes_sem ?_ ?_ ?_ ?_)<;>exact pre)|exact sideG)|apply rR|apply rE|apply rH| (apply cD<;>intro hb<;>(try simp only[SPLT]at hb)<;>try exact noB))
 all_goals try exact false
 repeat' ((conv=>whnf);first|exact endR|with_reducible first|apply And.intro|apply oR|apply oN|apply dC)
 all_goals (conv=>whnf)
 refine rle_bool ?_
 rw [show decide ((s.length:Int)≤1000)=decide (s.length≤1000) from decide_eq_decide.2 (by omega)]
theorem isTextAny_sem (s:Str):Sem Tryz.prog 81 [.str s] (.bool (textB s)):=by
 have h:s.length≤1000→Sem Tryz.prog 104 [.str s,.int .u8 32,.int .u8 126] (.bool (spanB 32 126 s)):=fun h=>inBytes_sem s 32 126 (by omega)
 unfold textB
 generalize spanB 32 126 s=r at h ⊢
 refine si [] Tryz.func81 ?_
 repeat'((conv=>whnf);first|(try(first|apply eN|apply eC);conv=>whnf);apply sD;(focus(try intro hc;have hc0:=hc;(try simp only[SPLT]at hc);try refine and0 ?_);first|(refine gx (h (by omega))<;>exact pre)|(refine gx (inBytes_sem ?_ ?_ ?_ ?_)<;>exact pre)|exact sideG)|apply rR|apply rE|apply rH| (apply cD<;>intro hb<;>(try simp only[SPLT]at hb)<;>try exact noB))
 all_goals try exact false
 repeat' ((conv=>whnf);first|exact endR|with_reducible first|apply And.intro|apply oR|apply oN|apply dC)
 all_goals (conv=>whnf)
 refine rle_bool ?_
 rw [show decide ((s.length:Int)≤1000)=decide (s.length≤1000) from decide_eq_decide.2 (by omega)]
def prevB (prev:Option Str) (s:Str):Bool:=
 match prev with
 |some q=>Op.bytesLess s q || s == q
 |none=>false
def valsErr (prev:Option Str):List Str→Int
 |[]=>0
 |s::l=>if s = []∨textB s=false then 3 else if prevB prev s=true then 8 else valsErr (some s) l
def valuesErr (l:List Str):Int:=if l.length=0 then 9 else if 20 < l.length then 2 else valsErr none l
theorem vals_at {l:List Str} {i:Nat} {s:Str} (h:l[i]?=some s) (prev:Option Str):valsErr prev (l.drop i)=if s = []∨textB s=false then 3 else if prevB prev s=true then 8 else valsErr (some s) (l.drop (i+1)):=by
 have hlt:=(gLt h)
 have h1:l.drop i=s::l.drop (i+1):=by
  rw [List.drop_eq_getElem_cons hlt,(List.getElem?_eq_some_iff.1 h).2]
 rw [h1,valsErr]
theorem valuesFault_sem (vs:List Str):Sem Tryz.prog 57 [.sl 0 1 (vs.map fun s => [.str s])] (.int .i64 (valuesErr vs)):=by
 refine sem_len 0 rfl rfl fun hl => ?_
 rw [List.length_map] at hl
 have he:valuesErr vs=if vs.length=0 then 9 else if 20 < vs.length then 2 else valsErr none vs:=rfl
 generalize valuesErr vs=e at he ⊢
 refine si [] Tryz.func57 ?_
 repeat'((conv=>whnf);first|(try(first|apply eN|apply eI|apply eC);conv=>whnf);apply sD;(focus(try intro hc;have hc0:=hc;(try simp only[SPLT]at hc);try refine and0 ?_);first|(refine gx (isTextAny_sem ?_)<;>exact pre)|(refine gx (isText_sem ?_ ?_)<;>exact pre)|exact sideG)|apply rR|apply rE|apply rH| (apply cD<;>intro hb<;>(try simp only[SPLT]at hb)<;>try exact noB))
 all_goals try exact false
 ·repeat' ((conv=>whnf);first|exact endR|with_reducible first|apply And.intro|apply oR|apply oN|apply dC)
  all_goals (conv=>whnf)
  exact rle_int (by rw [he,if_pos (by omega)])
 ·repeat' ((conv=>whnf);first|exact endR|with_reducible first|apply And.intro|apply oR|apply oN|apply dC)
  all_goals (conv=>whnf)
  exact rle_int (by rw [he,if_neg (by omega),if_pos (by omega)])
 ·have he2:e=valsErr none vs:=by rw [he,if_neg (by omega),if_neg (by omega)]
  clear he
  refine loop_go (M:=fun t=>mem t []) hT hM (fun i:Nat => [(13,.int .i64 i)]) (fun i=>i≤vs.length∧valsErr (if i=0 then none else vs[i - 1]?) (vs.drop i)=e) (fun i=>vs.length - i) (0) ?_ ?_ ?_
  ·exact finF
  ·exact ⟨by omega,he2.symm⟩
  ·rintro i ⟨hi,hv⟩
   clear he2
   cases hx:vs[i]? with
   |none=>
    have hn:=List.getElem?_eq_none_iff.1 hx
    rw [List.drop_of_length_le hn] at hv
    repeat'((conv=>whnf);first|(try(first|apply eN|apply eI|apply eC);conv=>whnf);apply sD;(focus(try intro hc;have hc0:=hc;(try simp only[SPLT]at hc);try refine and0 ?_);first|(refine gx (isTextAny_sem ?_)<;>exact pre)|(refine gx (isText_sem ?_ ?_)<;>exact pre)|exact sideG)|apply rR|apply rE|apply rH| (apply cD<;>intro hb<;>(try simp only[SPLT]at hb)<;>try exact noB))
    all_goals try exact false
    repeat' ((conv=>whnf);first|exact endR|with_reducible first|apply And.intro|apply oR|apply oN|apply dC)
    all_goals (conv=>whnf)
    exact rle_int hv
   |some s=>
    have hlt:=(gLt hx)
    rw [vals_at hx] at hv
    have ht:=isTextAny_sem s
    generalize textB s=t at ht hv
    by_cases hi0:i=0
    ·subst hi0
     repeat'((conv=>whnf);first|(try(first|apply eN|apply eI|apply eC);conv=>whnf);apply sD;(focus(try intro hc;have hc0:=hc;(try simp only[SPLT]at hc);try refine and0 ?_);first|exact gx ht|(refine gx (isTextAny_sem ?_)<;>exact pre)|(refine gx (isText_sem ?_ ?_)<;>exact pre)|exact sideG)|apply rR|apply rE|apply rH| (apply cD<;>intro hb<;>(try simp only[SPLT]at hb)<;>try exact noB))
     all_goals try exact false
     ·repeat' ((conv=>whnf);first|exact endR|with_reducible first|apply And.intro|apply oR|apply oN|apply dC)
      all_goals (conv=>whnf)
      rw [if_pos (by simp_all)] at hv
      exact rle_int hv
     ·rw [if_neg (by simp_all),if_neg (by simp [prevB])] at hv
      refine ⟨1,⟨by omega,by rw [if_neg (by omega)];rw [hx];exact hv⟩,by omega,?_⟩
      exact finF
    ·obtain ⟨q,hq⟩:∃ q,vs[i - 1]?=some q:=⟨vs[i - 1]'(by omega),by simp⟩
     rw [if_neg hi0,hq] at hv
     repeat'((conv=>whnf);first|(try(first|apply eN|apply eI|apply eC);conv=>whnf);apply sD;(focus(try intro hc;have hc0:=hc;(try simp only[SPLT]at hc);try refine and0 ?_);first|exact gx ht|(refine gx (isTextAny_sem ?_)<;>exact pre)|(refine gx (isText_sem ?_ ?_)<;>exact pre)|(exact idx_eq hq (by omega))|exact sideG)|apply rR|apply rE|apply rH| (apply cD<;>intro hb<;>(try simp only[SPLT]at hb)<;>try exact noB))
     all_goals try exact false
     ·repeat' ((conv=>whnf);first|exact endR|with_reducible first|apply And.intro|apply oR|apply oN|apply dC)
      all_goals (conv=>whnf)
      rw [if_pos (by simp_all)] at hv
      exact rle_int hv
     ·repeat' ((conv=>whnf);first|exact endR|with_reducible first|apply And.intro|apply oR|apply oN|apply dC)
      all_goals (conv=>whnf)
      rw [if_neg (by simp_all),if_pos (by simp [prevB];simp_all)] at hv
      exact rle_int hv
     ·rw [if_neg (by simp_all),if_neg (by simp [prevB];simp_all)] at hv
      refine ⟨i+1,⟨by omega,by rw [if_neg (by omega),Nat.add_sub_cancel,hx];exact hv⟩,by omega,?_⟩
      exact finF
end Go.Proofs.YtindehjiaknokaaGreatDoor
