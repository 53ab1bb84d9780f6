/- Conditions: their ends and their values (walks). Conditions: their values (walk). One simple condition is right, and its text: walks at this condition. A condition among others: the program's and the reference's (walks). -/
import Derived.Test.YtdhlopciapncfaaGreatDoorZ16
import Derived.Test.YtdhlopciapncfaaGreatDoorZ15
import Derived.Test.YtdhlopciapncfaaGreatDoorZ11
namespace Go.Proofs.YtdhlopciapncfaaGreatDoor
set_option linter.unusedSimpArgs false
set_option linter.unusedVariables false
open Go.RowKit
set_option maxRecDepth 100000
set_option maxHeartbeats 2000000
def endsErr (k lo hi:Int):Int:=
 if k=9 then (if lo < -1000000000000∨1000000000000 < lo∨hi < -1000000000000∨1000000000000 < hi then 1 else if hi < lo then 8 else 0)
 else (if lo < 0∨1000000000 < lo∨hi < 0∨1000000000 < hi then 1 else if hi < lo then 8 else 0)
theorem endsFault_sem (k:Int) (rows:List (List D)) (p:Str) (vs:List (List D)) (lo hi:Int):Sem Tryz.prog 69 [.agg [.int .i64 k,.sl 0 6 rows,.str p,.sl 0 1 vs,.int .i64 lo,.int .i64 hi]] (.int .i64 (endsErr k lo hi)):=by
 have hf:endsErr k lo hi=if k=9 then (if lo < -1000000000000∨1000000000000 < lo∨hi < -1000000000000∨1000000000000 < hi then 1 else if hi < lo then 8 else 0)
  else (if lo < 0∨1000000000 < lo∨hi < 0∨1000000000 < hi then 1 else if hi < lo then 8 else 0):=rfl
 generalize endsErr k lo hi=r at hf ⊢
 have o1:=outsideK_sem lo (-1000000000000) 1000000000000
 have o2:=outsideK_sem hi (-1000000000000) 1000000000000
 have o3:=outsideK_sem lo 0 1000000000
 have o4:=outsideK_sem hi 0 1000000000
 refine si [] Tryz.func69 ?_
 repeat'((conv=>whnf);first|(try(first|apply eN|apply eI|apply eC);conv=>whnf);apply sD;(focus(try intro hc;have hc0:=hc;(try simp only[SPLT]at hc);try refine and0 ?_);first|exact gx o1|exact gx o2|exact gx o3|exact gx o4|(refine gx (outsideK_sem ?_ ?_ ?_)<;>exact pre)|exact sideG)|apply rR|apply rE|apply rH| (apply cD<;>intro hb<;>(try simp only[SPLT]at hb)<;>try exact noB))
 all_goals try exact false
 all_goals (
  repeat' ((conv=>whnf);first|exact endR|with_reducible first|apply And.intro|apply oR|apply oN|apply dC)
  all_goals (conv=>whnf)
  refine rle_int ?_
  rw [hf]
  split<;>split<;>(try split)<;>omega)
def spanB (a b:Int) (s:Str):Bool:=s.all fun c=>decide (a≤c.toNat) && decide ((c.toNat:Int)≤b)
theorem inBytes_sem (s:Str) (a b:Int) (hs:s.length≤9223372036854775807):Sem Tryz.prog 111 [.str s,.int .u8 a,.int .u8 b] (.bool (spanB a b s)):=by
 have hr:spanB a b s=s.all fun c=>decide (a≤c.toNat) && decide ((c.toNat:Int)≤b):=rfl
 generalize spanB a b s=r at hr ⊢
 refine si [] Tryz.func111 ?_
 repeat'((conv=>whnf);first|(try(first|apply eN|apply eC);conv=>whnf);apply sD;(focus(try intro hc;have hc0:=hc;(try simp only[SPLT]at hc);try refine and0 ?_);first|exact sideG)|apply rR|apply rE|apply rH| (apply cD<;>intro hb<;>(try simp only[SPLT]at hb)<;>try exact noB))
 all_goals try exact false
 refine loop_go (M:=fun t=>mem t []) hT hM (fun k:Nat => [(10,.int .i64 k)]) (fun k=>k≤s.length∧((s.take k).all fun c=>decide (a≤c.toNat) && decide ((c.toNat:Int)≤b))=true) (fun k=>s.length - k) (0) ?_ ?_ ?_
 ·exact finF
 ·exact ⟨by omega,rfl⟩
 ·rintro k ⟨hk,hall⟩
  cases hx:s[k]? with
  |none=>
   have hn:=List.getElem?_eq_none_iff.1 hx
   rw [List.take_of_length_le hn] at hall
   repeat'((conv=>whnf);first|(try(first|apply eN|apply eC);conv=>whnf);apply sD;(focus(try intro hc;have hc0:=hc;(try simp only[SPLT]at hc);try refine and0 ?_);first|exact sideG)|apply rR|apply rE|apply rH| (apply cD<;>intro hb<;>(try simp only[SPLT]at hb)<;>try exact noB))
   all_goals try exact false
   repeat' ((conv=>whnf);first|exact endR|with_reducible first|apply And.intro|apply oR|apply oN|apply dC)
   all_goals (conv=>whnf)
   exact rle_bool (by rw [hr,hall])
  |some x=>
   have hlt:=(gLt hx)
   repeat'((conv=>whnf);first|(try(first|apply eN|apply eC);conv=>whnf);apply sD;(focus(try intro hc;have hc0:=hc;(try simp only[SPLT]at hc);try refine and0 ?_);first|exact sideG)|apply rR|apply rE|apply rH| (apply cD<;>intro hb<;>(try simp only[SPLT]at hb)<;>try exact noB))
   all_goals try exact false
   ·repeat' ((conv=>whnf);first|exact endR|with_reducible first|apply And.intro|apply oR|apply oN|apply dC)
    all_goals (conv=>whnf)
    refine rle_bool (Eq.symm ?_)
    simp [List.getD_eq_getElem?_getD,hx] at hb
    rw [hr,List.all_eq_false]
    exact ⟨x,gMem hx,by simp;omega⟩
   ·refine ⟨k+1,⟨by omega,?_⟩,by omega,?_⟩
    ·simp [List.getD_eq_getElem?_getD,hx] at hb
     rw [take_at hx,List.all_append,hall]
     simp
     omega
    ·exact finF
def textB (s:Str):Bool:=decide (s.length≤1000) && spanB 32 126 s
theorem isText_sem (s:Str) (hs:s.length≤9223372036854775807):Sem Tryz.prog 93 [.str s] (.bool (textB s)):=by
 have h:=inBytes_sem s 32 126 hs
 unfold textB
 generalize spanB 32 126 s=r at h ⊢
 refine si [] Tryz.func93 ?_
 repeat'((conv=>whnf);first|(try(first|apply eN|apply eC);conv=>whnf);apply sD;(focus(try intro hc;have hc0:=hc;(try simp only[SPLT]at hc);try refine and0 ?_);first|exact gx h|(refine gx (inBytes_sem ?_ ?_ ?_ ?_)<;>exact pre)|exact sideG)|apply rR|apply rE|apply rH| (apply cD<;>intro hb<;>(try simp only[SPLT]at hb)<;>try exact noB))
 all_goals try exact false
 repeat' ((conv=>whnf);first|exact endR|with_reducible first|apply And.intro|apply oR|apply oN|apply dC)
 all_goals (conv=>whnf)
 refine rle_bool ?_
 rw [show decide ((s.length:Int)≤1000)=decide (s.length≤1000) from decide_eq_decide.2 (by omega)]
theorem isTextAny_sem (s:Str):Sem Tryz.prog 93 [.str s] (.bool (textB s)):=by
 have h:s.length≤1000→Sem Tryz.prog 111 [.str s,.int .u8 32,.int .u8 126] (.bool (spanB 32 126 s)):=fun h=>inBytes_sem s 32 126 (by omega)
 unfold textB
 generalize spanB 32 126 s=r at h ⊢
 refine si [] Tryz.func93 ?_
 repeat'((conv=>whnf);first|(try(first|apply eN|apply eC);conv=>whnf);apply sD;(focus(try intro hc;have hc0:=hc;(try simp only[SPLT]at hc);try refine and0 ?_);first|(refine gx (h (by omega))<;>exact pre)|(refine gx (inBytes_sem ?_ ?_ ?_ ?_)<;>exact pre)|exact sideG)|apply rR|apply rE|apply rH| (apply cD<;>intro hb<;>(try simp only[SPLT]at hb)<;>try exact noB))
 all_goals try exact false
 repeat' ((conv=>whnf);first|exact endR|with_reducible first|apply And.intro|apply oR|apply oN|apply dC)
 all_goals (conv=>whnf)
 refine rle_bool ?_
 rw [show decide ((s.length:Int)≤1000)=decide (s.length≤1000) from decide_eq_decide.2 (by omega)]
def prevB (prev:Option Str) (s:Str):Bool:=
 match prev with
 |some q=>Op.bytesLess s q || s == q
 |none=>false
def valsErr (prev:Option Str):List Str→Int
 |[]=>0
 |s::l=>if s = []∨textB s=false then 3 else if prevB prev s=true then 8 else valsErr (some s) l
def valuesErr (l:List Str):Int:=if l.length=0 then 9 else if 20 < l.length then 2 else valsErr none l
theorem vals_at {l:List Str} {i:Nat} {s:Str} (h:l[i]?=some s) (prev:Option Str):valsErr prev (l.drop i)=if s = []∨textB s=false then 3 else if prevB prev s=true then 8 else valsErr (some s) (l.drop (i+1)):=by
 have hlt:=(gLt h)
 have h1:l.drop i=s::l.drop (i+1):=by
  rw [List.drop_eq_getElem_cons hlt,(List.getElem?_eq_some_iff.1 h).2]
 rw [h1,valsErr]
theorem valuesFault_sem (vs:List Str):Sem Tryz.prog 68 [.sl 0 1 (vs.map fun s => [.str s])] (.int .i64 (valuesErr vs)):=by
 refine sem_len 0 rfl rfl fun hl => ?_
 rw [List.length_map] at hl
 have he:valuesErr vs=if vs.length=0 then 9 else if 20 < vs.length then 2 else valsErr none vs:=rfl
 generalize valuesErr vs=e at he ⊢
 refine si [] Tryz.func68 ?_
 repeat'((conv=>whnf);first|(try(first|apply eN|apply eI|apply eC);conv=>whnf);apply sD;(focus(try intro hc;have hc0:=hc;(try simp only[SPLT]at hc);try refine and0 ?_);first|(refine gx (isTextAny_sem ?_)<;>exact pre)|(refine gx (isText_sem ?_ ?_)<;>exact pre)|exact sideG)|apply rR|apply rE|apply rH| (apply cD<;>intro hb<;>(try simp only[SPLT]at hb)<;>try exact noB))
 all_goals try exact false
 ·repeat' ((conv=>whnf);first|exact endR|with_reducible first|apply And.intro|apply oR|apply oN|apply dC)
  all_goals (conv=>whnf)
  exact rle_int (by rw [he,if_pos (by omega)])
 ·repeat' ((conv=>whnf);first|exact endR|with_reducible first|apply And.intro|apply oR|apply oN|apply dC)
  all_goals (conv=>whnf)
  exact rle_int (by rw [he,if_neg (by omega),if_pos (by omega)])
 ·have he2:e=valsErr none vs:=by rw [he,if_neg (by omega),if_neg (by omega)]
  clear he
  refine loop_go (M:=fun t=>mem t []) hT hM (fun i:Nat => [(13,.int .i64 i)]) (fun i=>i≤vs.length∧valsErr (if i=0 then none else vs[i - 1]?) (vs.drop i)=e) (fun i=>vs.length - i) (0) ?_ ?_ ?_
  ·exact finF
  ·exact ⟨by omega,he2.symm⟩
  ·rintro i ⟨hi,hv⟩
   clear he2
   cases hx:vs[i]? with
   |none=>
    have hn:=List.getElem?_eq_none_iff.1 hx
    rw [List.drop_of_length_le hn] at hv
    repeat'((conv=>whnf);first|(try(first|apply eN|apply eI|apply eC);conv=>whnf);apply sD;(focus(try intro hc;have hc0:=hc;(try simp only[SPLT]at hc);try refine and0 ?_);first|(refine gx (isTextAny_sem ?_)<;>exact pre)|(refine gx (isText_sem ?_ ?_)<;>exact pre)|exact sideG)|apply rR|apply rE|apply rH| (apply cD<;>intro hb<;>(try simp only[SPLT]at hb)<;>try exact noB))
    all_goals try exact false
    repeat' ((conv=>whnf);first|exact endR|with_reducible first|apply And.intro|apply oR|apply oN|apply dC)
    all_goals (conv=>whnf)
    exact rle_int hv
   |some s=>
    have hlt:=(gLt hx)
    rw [vals_at hx] at hv
    have ht:=isTextAny_sem s
    generalize textB s=t at ht hv
    by_cases hi0:i=0
    ·subst hi0
     repeat'((conv=>whnf);first|(try(first|apply eN|apply eI|apply eC);conv=>whnf);apply sD;(focus(try intro hc;have hc0:=hc;(try simp only[SPLT]at hc);try refine and0 ?_);first|exact gx ht|(refine gx (isTextAny_sem ?_)<;>exact pre)|(refine gx (isText_sem ?_ ?_)<;>exact pre)|exact sideG)|apply rR|apply rE|apply rH| (apply cD<;>intro hb<;>(try simp only[SPLT]at hb)<;>try exact noB))
     all_goals try exact false
     ·repeat' ((conv=>whnf);first|exact endR|with_reducible first|apply And.intro|apply oR|apply oN|apply dC)
      all_goals (conv=>whnf)
      rw [if_pos (by simp_all)] at hv
      exact rle_int hv
     ·rw [if_neg (by simp_all),if_neg (by simp [prevB])] at hv
      refine ⟨1,⟨by omega,by rw [if_neg (by omega)];rw [hx];exact hv⟩,by omega,?_⟩
      exact finF
    ·obtain ⟨q,hq⟩:∃ q,vs[i - 1]?=some q:=⟨vs[i - 1]'(by omega),by simp⟩
     rw [if_neg hi0,hq] at hv
     repeat'((conv=>whnf);first|(try(first|apply eN|apply eI|apply eC);conv=>whnf);apply sD;(focus(try intro hc;have hc0:=hc;(try simp only[SPLT]at hc);try refine and0 ?_);first|exact gx ht|(refine gx (isTextAny_sem ?_)<;>exact pre)|(refine gx (isText_sem ?_ ?_)<;>exact pre)|(exact idx_eq hq (by omega))|exact sideG)|apply rR|apply rE|apply rH| (apply cD<;>intro hb<;>(try simp only[SPLT]at hb)<;>try exact noB))
     all_goals try exact false
     ·repeat' ((conv=>whnf);first|exact endR|with_reducible first|apply And.intro|apply oR|apply oN|apply dC)
      all_goals (conv=>whnf)
      rw [if_pos (by simp_all)] at hv
      exact rle_int hv
     ·repeat' ((conv=>whnf);first|exact endR|with_reducible first|apply And.intro|apply oR|apply oN|apply dC)
      all_goals (conv=>whnf)
      rw [if_neg (by simp_all),if_pos (by simp [prevB];simp_all)] at hv
      exact rle_int hv
     ·rw [if_neg (by simp_all),if_neg (by simp [prevB];simp_all)] at hv
      refine ⟨i+1,⟨by omega,by rw [if_neg (by omega),Nat.add_sub_cancel,hx];exact hv⟩,by omega,?_⟩
      exact finF
def bgm:Str := [66,71,77]
theorem bgm_way:Sem Tryz.prog 28 [.str bgm] (.tup [.agg [.sl 0 1 [],.str bgm,.int .i64 0,.int .i64 0],.bool true]):=by
 have h1:=lastIndex_sem bgm 47 (by decide)
 rw [show Lib.lastIndexByte ⟨bgm.toArray⟩ (47:UInt8).toNat = -1 by decide +kernel] at h1
 have h2:=(split_sem bgm 46 (by decide)).frozen
 rw [show partsAt 46 bgm = [bgm] by decide] at h2
 have h3:=isTag_sem bgm (by decide)
 rw [show isTagB bgm=true by decide] at h3
 refine si [2,4,1000016] Tryz.func28 ?_
 repeat'((conv=>whnf);first|(try(first|apply eN|apply eI|apply eC);conv=>whnf);apply sD;(focus(try intro hc;have hc0:=hc;(try simp only[SPLT]at hc);try refine and0 ?_);first|exact gx h1|exact gx h2|exact gx h3|(refine gx (lastIndex_sem ?_ ?_ ?_)<;>exact pre)|(refine gx (split_sem ?_ ?_ ?_)<;>exact pre)|(refine gx (isTag_sem ?_ ?_)<;>exact pre)|(refine gx (outsideK_sem ?_ ?_ ?_)<;>exact pre)|exact sideG)|(first|apply dG|apply kB);kernel_rfl|apply rR|apply rE|apply rH| (apply cD<;>intro hb<;>(try simp only[SPLT]at hb)<;>try exact noB))
 all_goals try exact false
 refine loop_go (M:=fun t=>mem t [2,4,1000016]) hT hM (fun _:Unit => [(54,.int .i64 0),(4,.obj [.nil,.str bgm,.int .i64 0,.int .i64 0])]) (fun _=>True) (fun _=>0) (()) ?_ ?_ ?_
 ·exact finF
 ·exact trivial
 ·rintro _ _
  repeat'((conv=>whnf);first|(try(first|apply eN|apply eI|apply eC);conv=>whnf);apply sD;(focus(try intro hc;have hc0:=hc;(try simp only[SPLT]at hc);try refine and0 ?_);first|exact gx h1|exact gx h2|exact gx h3|(refine gx (lastIndex_sem ?_ ?_ ?_)<;>exact pre)|(refine gx (split_sem ?_ ?_ ?_)<;>exact pre)|(refine gx (isTag_sem ?_ ?_)<;>exact pre)|(refine gx (outsideK_sem ?_ ?_ ?_)<;>exact pre)|exact sideG)|(first|apply dG|apply kB);kernel_rfl|apply rR|apply rE|apply rH| (apply cD<;>intro hb<;>(try simp only[SPLT]at hb)<;>try exact noB))
  all_goals try exact false
  repeat' ((conv=>whnf);first|exact endR|with_reducible first|apply And.intro|apply oR|apply oN|apply dC)
  all_goals (conv=>whnf)
  (first|refine rle_agg ?_|refine dle_agg ?_|skip)
  repeat' (first|exact endF|exact endF2|with_reducible apply dC|with_reducible apply dle_agg)
theorem bgm_path:Sem Tryz.prog 67 [.str bgm] (.int .i64 0):=by
 have h1:=bgm_way
 refine si [1000016] Tryz.func67 ?_
 repeat'((conv=>whnf);first|(try(first|apply eN|apply eI|apply eC);conv=>whnf);apply sD;(focus first|exact gx h1|(refine gx (bgm_way )<;>exact pre)|exact side)|apply rR|apply rE|apply rH| (apply cD<;>intro hb<;>(try simp only[SPLT]at hb)<;>try exact noB))
 all_goals try exact false
 exact finR
theorem bgm_form:formB 4 0 bgm 0 0 0=false:=by decide
theorem bgm_own:Sem Tryz.prog 39 [.agg [.int .i64 4,.sl 0 6 [],.str bgm,.sl 0 1 [],.int .i64 0,.int .i64 0]] (.int .i64 0):=by
 have h1:=bgm_path
 have h2:=formFault_sem 4 [] bgm [] 0 0
 rw [show formB 4 ([]:List (List D)).length bgm ([]:List (List D)).length 0 0=false from bgm_form] at h2
 have h3:=usesOf_sem 4
 rw [show usesOfB 4=false by decide] at h3
 have h4:=isOver_sem 4
 rw [show overB 4=false by decide] at h4
 have h5:=outsideK_sem 4 1 9
 refine si [1000016] Tryz.func39 ?_
 repeat'((conv=>whnf);first|(try(first|apply eN|apply eI|apply eC);conv=>whnf);apply sD;(focus first|exact gx h1|exact gx h2|exact gx h3|exact gx h4|exact gx h5|(refine gx (outsideK_sem ?_ ?_ ?_)<;>exact pre)|(refine gx (formFault_sem ?_ ?_ ?_ ?_ ?_ ?_)<;>exact pre)|(refine gx (usesOf_sem ?_)<;>exact pre)|(refine gx (isOver_sem ?_)<;>exact pre)|(refine gx (bgm_path )<;>exact pre)|(refine gx (valuesFault_sem ?_)<;>exact pre)|(refine gx (endsFault_sem ?_ ?_ ?_ ?_ ?_ ?_)<;>exact pre)|exact side)|apply rR|apply rE|apply rH| (apply cD<;>intro hb<;>(try simp only[SPLT]at hb)<;>try exact noB))
 all_goals try exact false
 exact finR
theorem bgm_write:Sem Tryz.prog 20 [.agg [.int .i64 4,.sl 0 6 [],.str bgm,.sl 0 1 [],.int .i64 0,.int .i64 0]] (.str ([116,104,101,114,101,32]++bgm)):=by
 refine si [1000016] Tryz.func20 ?_
 repeat'((conv=>whnf);first|(try(first|apply eN|apply eI|apply eC);conv=>whnf);apply sD;(focus first|(decide)|exact side)|(first|apply dG|apply kB);kernel_rfl|apply rR|apply rE|apply rH| (apply cD<;>intro hb<;>(try simp only[SPLT]at hb)<;>try exact noB))
 all_goals try exact false
 exact finR
theorem bgm_cond:SemO Tryz.prog 16 (.obj [.int .i64 0]) [.agg [.int .i64 4,.sl 0 6 [],.str bgm,.sl 0 1 [],.int .i64 0,.int .i64 0],.int .i64 0] (.int .i64 0) (some (.obj [.int .i64 1])):=by
 have h1:=bgm_own
 refine semO_intro (M:=fun t=>mem t [0,9,1000016]) hT hM Tryz.func16 inferInstance rfl rfl rfl rfl rfl rfl rfl rfl rfl ?_
 repeat'((conv=>whnf);first|(try(first|apply eN|apply eI|apply eC);conv=>whnf);apply sD;(focus(try intro hc;have hc0:=hc;(try simp only[SPLT]at hc);try refine and0 ?_);first|exact gx h1|(refine gx (bgm_own )<;>exact pre)|exact sideG)|((with_reducible apply CallO.go);(conv=>whnf);(with_reducible apply sD);(focus (first|((apply giveso_go (bgm_cond ));(focus (first|exact rfl|(simp;done)));(focus (exact DLes.au));exact rfl;(all_goals (exact pre))))))|apply rR|apply rE|apply rH| (apply cD<;>intro hb<;>(try simp only[SPLT]at hb)<;>try exact noB))
 all_goals try exact false
 refine loop_go (M:=fun t=>mem t [0,9,1000016]) hT hM (fun _:Unit => [(35,.int .i64 0),(0,.obj [.int .i64 1])]) (fun _=>True) (fun _=>0) (()) ?_ ?_ ?_
 ·exact finF
 ·exact trivial
 ·rintro _ _
  repeat'((conv=>whnf);first|(try(first|apply eN|apply eI|apply eC);conv=>whnf);apply sD;(focus(try intro hc;have hc0:=hc;(try simp only[SPLT]at hc);try refine and0 ?_);first|exact gx h1|(refine gx (bgm_own )<;>exact pre)|exact sideG)|((with_reducible apply CallO.go);(conv=>whnf);(with_reducible apply sD);(focus (first|((apply giveso_go (bgm_cond ));(focus (first|exact rfl|(simp;done)));(focus (exact DLes.au));exact rfl;(all_goals (exact pre))))))|apply rR|apply rE|apply rH| (apply cD<;>intro hb<;>(try simp only[SPLT]at hb)<;>try exact noB))
  all_goals try exact false
  exact finR
theorem bgm_check:Sem Tryz.prog 8 [.agg [.int .i64 4,.sl 0 6 [],.str bgm,.sl 0 1 [],.int .i64 0,.int .i64 0]] (.int .i64 0):=by
 refine si [4,1000016] Tryz.func8 ?_
 repeat'((conv=>whnf);first|(try(first|apply eN|apply eI|apply eC);conv=>whnf);apply sD;(focus first|exact side)|((with_reducible apply CallO.go);(conv=>whnf);(with_reducible apply sD);(focus (first|((apply giveso_go (bgm_cond ));(focus (first|exact rfl|(simp;done)));(focus (exact DLes.au));exact rfl;(all_goals (exact pre))))))|apply rR|apply rE|apply rH| (apply cD<;>intro hb<;>(try simp only[SPLT]at hb)<;>try exact noB))
 all_goals try exact false
 exact finR
theorem bgm_text:Sem Tryz.prog 11 [.agg [.int .i64 4,.sl 0 6 [],.str bgm,.sl 0 1 [],.int .i64 0,.int .i64 0]] (.tup [.str ([116,104,101,114,101,32]++bgm),.int .i64 0]):=by
 have h1:=bgm_check
 have h2:=bgm_write
 refine si [1000016] Tryz.func11 ?_
 repeat'((conv=>whnf);first|(try(first|apply eN|apply eI|apply eC);conv=>whnf);apply sD;(focus first|exact gx h1|exact gx h2|(refine gx (bgm_check )<;>exact pre)|(refine gx (bgm_write )<;>exact pre)|exact side)|apply rR|apply rE|apply rH| (apply cD<;>intro hb<;>(try simp only[SPLT]at hb)<;>try exact noB))
 all_goals try exact false
 exact finR
theorem Sem.weak {P:Program} {f:Nat} {args args':List D} {d:D} (h:Sem P f args d) (hl:DLes args' args):Sem P f args' d:=
 ⟨h.1,h.2.1,fun S w vs hw hlen hr=>h.2.2 S w vs hw (by rw [hlen,hl.len]) fun i d v hd hv=>by
  obtain ⟨d',hd'⟩:=cells_back hl.len hd
  exact (hr i d' v hd' hv).le (hl.get hd' hd)⟩
theorem awake4_sem:Sem Tryz.prog 5 [] (.bool true):=by
 have h1:=bgm_text.weak (args' := [.agg [.int .i64 4,.nil,.str [66,71,77],.nil,.int .i64 0,.int .i64 0]]) (.cons (dle_agg (.cons (.refl _) (.cons (.nil _ _) (.cons (.refl _) (.cons (.nil _ _) (.cons (.refl _) (.cons (.refl _) .nil))))))) .nil)
 refine si [1000016] Tryz.func5 ?_
 repeat'((conv=>whnf);first|(try(first|apply eN|apply eC);conv=>whnf);apply sD;(focus(try intro hc;have hc0:=hc;(try simp only[SPLT]at hc);try refine and0 ?_);first|exact gx h1|(refine gx (bgm_text )<;>exact pre)|exact sideG)|apply rR|apply rE|apply rH| (apply cD<;>intro hb<;>(try simp only[SPLT]at hb)<;>try exact noB))
 all_goals try exact false
 exact finR
set_option maxHeartbeats 4000000
def idxG {α:Type} (q:α→Bool):List α→Int→Int
 |[],_ => -1
 |a::r,k=>if q a=true then k else idxG q r (k+1)
theorem idxG_any {α:Type} (q:α→Bool):∀ (l:List α) (k:Int),0≤k→decide (0≤idxG q l k)=l.any q
 |[],k,_=>rfl
 |a::r,k,h=>by
  rw [idxG,List.any_cons]
  by_cases ha:q a=true
  ·rw [if_pos ha,ha];simpa using h
  ·rw [if_neg ha,idxG_any q r (k+1) (by omega)]
   simp [ha]
theorem idxG_at {α:Type} {q:α→Bool} {l:List α} {k:Nat} {a:α} (h:l[k]?=some a):idxG q (l.drop k) k=if q a=true then (k:Int) else idxG q (l.drop (k+1)) ((k+1:Nat):Int):=by
 rw [List.drop_eq_getElem_cons (gLt h),(List.getElem?_eq_some_iff.1 h).2]
 rfl
theorem indexFuncC_sem (l:List Cond) (f:Nat) (cp:List D) (q:Cond→Bool) (hq:∀ a ∈ l,Sem Tryz.prog f [.agg a.row,.ptr cp] (.bool (q a))):Sem Tryz.prog 48 [.sl 0 6 (l.map Cond.row),.fn f [.ptr cp]] (.int .i64 (idxG q l 0)):=by
 refine sem_len 0 rfl rfl fun hl => ?_
 rw [List.length_map] at hl
 refine si [1000016] Tryz.func48 ?_
 repeat'((conv=>whnf);first|(try(first|apply eN|apply eI|apply eC);conv=>whnf);apply sD;(focus first|exact side)|apply rR|apply rE|apply rH| (apply cD<;>intro hb<;>(try simp only[SPLT]at hb)<;>try exact noB))
 all_goals try exact false
 refine loop_go (M:=fun t=>mem t [1000016]) hT hM (fun k:Nat => [(8,.int .i64 k)]) (fun k=>k≤l.length∧idxG q (l.drop k) k=idxG q l 0) (fun k=>l.length - k) (0) ?_ ?_ ?_
 ·exact finF
 ·exact ⟨Nat.zero_le _,rfl⟩
 ·rintro k ⟨hk,hi⟩
  rcases hx:l[k]? with _|a
  ·have hk':k=l.length:=by have:=List.getElem?_eq_none_iff.1 hx;omega
   subst hk'
   rw [List.drop_length] at hi
   repeat'((conv=>whnf);first|(try(first|apply eN|apply eI|apply eC);conv=>whnf);apply sD;(focus first|exact side)|apply rR|apply rE|apply rH| (apply cD<;>intro hb<;>(try simp only[SPLT]at hb)<;>try exact noB))
   all_goals try exact false
   repeat' ((conv=>whnf);first|exact endR|with_reducible first|apply And.intro|apply oR|apply oN|apply dC)
   all_goals (conv=>whnf)
   exact rle_int hi
  ·have hlt:=(gLt hx)
   have hc:=hq a (gMem hx)
   rw [idxG_at hx] at hi
   generalize q a=b at hc hi
   obtain ⟨k1,ks1,p1,vs1,lo1,ho1⟩:=a
   rw [Cond.row_mk] at hc
   repeat'((conv=>whnf);first|(try(first|apply eN|apply eI|apply eC);conv=>whnf);apply sD;(focus first|(exact idx_row hx rfl)|exact gx hc|exact side)|apply rR|apply rE|apply rH| (apply cD<;>intro hb<;>(try simp only[SPLT]at hb)<;>try exact noB))
   all_goals try exact false
   ·repeat' ((conv=>whnf);first|exact endR|with_reducible first|apply And.intro|apply oR|apply oN|apply dC)
    all_goals (conv=>whnf)
    exact rle_int (by rw [← hi,if_pos hb])
   ·refine ⟨k+1,⟨by omega,by rw [← hi,if_neg (by simp [hb])]⟩,by omega,?_⟩
    exact finF
theorem containsFuncC_sem (l:List Cond) (f:Nat) (cp:List D) (q:Cond→Bool) (hq:∀ a ∈ l,Sem Tryz.prog f [.agg a.row,.ptr cp] (.bool (q a))):Sem Tryz.prog 24 [.sl 0 6 (l.map Cond.row),.fn f [.ptr cp]] (.bool (l.any q)):=by
 have hI:=indexFuncC_sem l f cp q hq
 refine si [1000016] Tryz.func24 ?_
 repeat'((conv=>whnf);first|(try(first|apply eN|apply eC);conv=>whnf);apply sD;(focus first|exact gx hI|(refine gx (indexFuncC_sem ?_ ?_ ?_ ?_ ?_)<;>exact pre)|exact side)|apply rR|apply rE|apply rH| (apply cD<;>intro hb<;>(try simp only[SPLT]at hb)<;>try exact noB))
 all_goals try exact false
 repeat' ((conv=>whnf);first|exact endR|with_reducible first|apply And.intro|apply oR|apply oN|apply dC)
 all_goals (conv=>whnf)
 exact rle_bool (idxG_any q l 0 (by omega))
def hasC (l:List Cond) (c:Cond):Bool:=l.any fun x=>x.same c
def contraC (l:List Cond):Bool:=l.any fun c=>hasC l (notC c)
def numC (l:List Cond) (c:Cond):Int:=idxG (fun x=>x.same c) l 0
end Go.Proofs.YtdhlopciapncfaaGreatDoor
