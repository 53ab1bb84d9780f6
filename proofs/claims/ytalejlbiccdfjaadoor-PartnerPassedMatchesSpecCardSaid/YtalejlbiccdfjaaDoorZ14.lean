/- Arrivals: the reference's verdicts are there from the start (plain). Arrivals: Intake, Passed (walks of the program). -/
import Derived.Test.YtalejlbiccdfjaaDoorZ13
namespace Go.Proofs.YtalejlbiccdfjaaDoor
set_option linter.unusedSimpArgs false
set_option linter.unusedVariables false
open Go.RowKit
set_option maxRecDepth 100000
set_option maxHeartbeats 1000000
def IS.mark (t:IS) (i:Int):IS:=⟨t.e,t.held,t.passed,setT t.out i (-1)⟩
theorem setK_app (l m:List Vd) (i kind:Int) (h0:0≤i) (h:i < l.length):setK (l++m) i kind=setK l i kind++m:=by
 unfold setK
 rw [List.getElem?_append_left (by omega),List.getElem?_eq_getElem (by omega)]
 simp only []
 rw [List.set_append_left _ _ (by omega)]
theorem take_tail {s:Ser} {l:List Arr} {k:Nat} {M:Int} {t:IS} {a:Arr} (m:List Vd) (h:t.Pre k M) (hM:0≤M):(t.ext m).take s l k a=(t.take s l k a).ext m:=by
 have hout:=h.ok.out
 have eK:∀ q:Int,setK (t.out++m) k q=setK t.out k q++m:=fun q=>setK_app _ _ _ _ (by omega) (by omega)
 have eT:∀ q w:Int,setT (setK t.out k q++m) k w=setT (setK t.out k q) k w++m:=fun q w=>setT_app _ _ _ _ (by omega) (by rw [setK_len];omega)
 have hf:∀ w:Int,((⟨t.e+1,t.held,t.passed ++ [⟨k,t.e⟩],setT (setK t.out k 1) k w⟩:IS).ext m).follow w=((⟨t.e+1,t.held,t.passed ++ [⟨k,t.e⟩],setT (setK t.out k 1) k w⟩:IS).follow w).ext m:=fun w=>follow_tail m w (h.next (a:=⟨w,0,[]⟩) hM)
 unfold IS.take IS.ext
 dsimp only
 rw [eK,eT]
 by_cases h1:placeN s t.e a.num=t.e
 ·rw [if_pos h1,if_pos h1]
  exact hf a.time
 ·rw [if_neg h1,if_neg h1]
  by_cases h2:t.e < placeN s t.e a.num
  ·rw [if_pos h2,if_pos h2]
   cases hy:findS (placeN s t.e a.num) t.held with
   |some z=>dsimp only;rw [eK]
   |none=>dsimp only;rw [eK]
  ·rw [if_neg h2,if_neg h2]
   cases hy:lastS (placeN s t.e a.num) t.passed with
   |some z=>dsimp only;rw [eK]
   |none=>dsimp only;rw [eK,eT]
def zeros (n:Nat):List Vd:=List.replicate n ⟨0,0⟩
theorem mark_zeros {t:IS} {k n:Nat} (h:t.out.length=k):(t.ext (zeros (n+1))).mark k=(t.ext [⟨0,-1⟩]).ext (zeros n):=by
 unfold IS.mark IS.ext zeros
 dsimp only
 congr 1
 unfold setT
 have e:(t.out++List.replicate (n+1) (⟨0,0⟩:Vd))[(k:Int).toNat]?=some ⟨0,0⟩:=by
  rw [Int.toNat_natCast,List.getElem?_append_right (by omega),h,Nat.sub_self,List.replicate_succ]
  rfl
 rw [e]
 dsimp only
 rw [Int.toNat_natCast,List.set_append_right _ _ (by omega),h,Nat.sub_self,List.replicate_succ,List.set_cons_zero,List.append_assoc]
 rfl
def runK (s:Ser) (hold:Int) (l:List Arr) (time:Int) (k:Nat):IS:=(comeN s hold l (min k (upto time l))).ext (zeros (l.length - min k (upto time l)))
theorem runK_ok {s:Ser} {hold:Int} {l:List Arr} (hs:0 < sizeN s) (hs2:sizeN s≤1000000000000000) (time:Int) (k:Nat):(runK s hold l time k).Ok l.length (l.length * 1000000000000002):=by
 have hu:=upto_le time l
 have h:=comeN_ok (s:=s) (hold:=hold) (l:=l) hs hs2 (min k (upto time l)) (by omega)
 have h2:=ext_ok (zeros (l.length - min k (upto time l))) h
 have e:min k (upto time l)+(zeros (l.length - min k (upto time l))).length=l.length:=by unfold zeros;rw [List.length_replicate];omega
 rw [e] at h2
 have hm:((min k (upto time l):Nat):Int) * 1000000000000002≤(l.length:Int) * 1000000000000002:=by omega
 exact ⟨⟨h2.nums,h2.pnums,h2.inc,h2.dist,h2.ge,fun y hy=>Int.le_trans (h2.le y hy) hm,h2.lo,Int.le_trans h2.hi (by omega),h2.few,h2.out⟩,h2.gt⟩
theorem runK_lo {s:Ser} {hold:Int} {l:List Arr} {time:Int} {k:Nat} (h:k≤upto time l):runK s hold l time k=(comeN s hold l k).ext (zeros (l.length - k)):=by
 unfold runK
 rw [Nat.min_eq_left h]
theorem runK_skip {s:Ser} {hold:Int} {l:List Arr} {time:Int} {k:Nat} (h:upto time l≤k):runK s hold l time (k+1)=runK s hold l time k:=by
 unfold runK
 rw [Nat.min_eq_right h,Nat.min_eq_right (by omega)]
theorem runK_end {s:Ser} {hold:Int} {l:List Arr} (hs:0 < sizeN s) (hs2:sizeN s≤1000000000000000) (time:Int):(runK s hold l time l.length).give l hold time=(runN s hold l time).ext (zeros (l.length - upto time l)):=by
 have hu:=upto_le time l
 unfold runK runN
 rw [Nat.min_eq_right hu]
 exact give_tail _ _ (comeN_ok hs hs2 _ hu)
theorem runK_come {s:Ser} {hold:Int} {l:List Arr} (hs:0 < sizeN s) (hs2:sizeN s≤1000000000000000) {time:Int} {k:Nat} {a:Arr} (hk:k < upto time l) (ha:l[k]?=some a):∃ t,(runK s hold l time k).give l hold a.time=t∧t.Ok l.length (l.length * 1000000000000002)∧t.held.length+t.passed.length≤k∧(t.mark k).take s l k a=runK s hold l time (k+1):=by
 have hu:=upto_le time l
 have hok:=comeN_ok (s:=s) (hold:=hold) (l:=l) hs hs2 k (by omega)
 obtain ⟨p1,p2,p3⟩:=come_pre ha hok
 have hg:=IS.Ok.give (l:=l) (hold:=hold) a.time _ rfl (runK_ok (s:=s) (hold:=hold) (l:=l) hs hs2 time k)
 refine ⟨_,rfl,hg,?_,?_⟩
 ·rw [runK_lo (by omega),give_tail _ _ hok]
  exact p2.few
 ·rw [runK_lo (by omega),give_tail _ _ hok,runK_lo (by omega),show l.length - k=(l.length - (k+1))+1 by omega,p1,← take_tail _ p3 (by omega)]
  rw [show (comeN s hold l k).give l hold a.time=preN s hold l k a from rfl,mark_zeros p2.out]
theorem giveF_time {l:List Arr} {hold T1 T2:Int} (h1:∀ i,tmAt l i+hold≤T1) (h2:∀ i,tmAt l i+hold≤T2):∀ (n:Nat) (t:IS),IS.giveF l hold n t T1=IS.giveF l hold n t T2
 |0,_=>rfl
 |n+1,t=>by
  rw [IS.giveF,IS.giveF]
  cases hh:t.held with
  |nil=>rfl
  |cons y r=>
   dsimp only
   have a1:=h1 y.num
   have a2:=h2 y.num
   rw [if_neg (by omega),if_neg (by omega)]
   exact giveF_time h1 h2 n _
set_option maxHeartbeats 4000000
def Vd.rows (l:List Vd):List (List D):=l.map Vd.row
def numRows (l:List Int):List (List D):=l.map fun n => [.int .i64 n]
def numsOf (l:List Sn):List Int:=l.map fun y=>y.num
theorem upto_all {time:Int}:∀ {l:List Arr},(∀ a ∈ l,a.time≤time)→upto time l=l.length
 |[],_=>rfl
 |a::l,h=>by
  rw [upto,if_pos (h a (by simp)),upto_all fun b hb=>h b (by simp [hb]),List.length_cons]
def intakeL (s:Ser) (hold:Int) (l:List Arr):List Vd:=if askErr s hold l ≠ 0 then [] else (runN s hold l 3000000000000000).out
theorem intake_sem (s:Ser) (hold:Int) (l:List Arr) (hd:∀ a ∈ l,a.dig.length≤9223372036854775807) (hl:l.length≤9223372036854775807):Sem Tryd.prog 6 [s.d,.int .i64 hold,.sl 0 3 (l.map Arr.row)] (.tup [.sl 0 2 ((intakeL s hold l).map Vd.row),.int .i64 (askErr s hold l)]):=by
 have c:=taken_sem s hold l 3000000000000000 hd hl
 unfold takenD at c
 unfold intakeL
 by_cases he:askErr s hold l=0
 ·rw [if_neg (by omega)] at c
  rw [if_neg (by omega),he]
  have hu:upto 3000000000000000 l=l.length:=upto_all fun a ha=>by
   have h2:arrErr l=0:=by
    unfold askErr at he
    split at he
    ·omega
    ·split at he
     ·omega
     ·omega
   have:=arrs_time (l:=l) (p:=none) (by unfold arrErr at h2;split at h2<;>omega) a ha
   omega
  rw [hu,Nat.sub_self] at c
  have e:(runN s hold l 3000000000000000).ext (skip 0)=runN s hold l 3000000000000000:=ext_nil _
  rw [e] at c
  generalize runN s hold l 3000000000000000=x at c ⊢
  unfold IS.froz at c
  refine si [1000028,1000035,1000036,1000043,1000044,1000046] Tryd.func6 ?_
  repeat'((conv=>whnf);first|(try(first|apply eN|apply eI|apply eC);conv=>whnf);apply sD;(focus first|exact gx c|(refine gx (taken_sem ?_ ?_ ?_ ?_ ?_ ?_)<;>exact pre)|exact side)|apply rR|apply rE|apply rH| (apply cD<;>intro hb<;>(try simp only[SPLT]at hb)<;>try exact noB))
  all_goals try exact false
  exact finR
 ·rw [if_pos he] at c ⊢
  generalize askErr s hold l=e at c he ⊢
  refine si [1000028,1000035,1000036,1000043,1000044,1000046] Tryd.func6 ?_
  repeat'((conv=>whnf);first|(try(first|apply eN|apply eI|apply eC);conv=>whnf);apply sD;(focus first|exact gx c|(refine gx (taken_sem ?_ ?_ ?_ ?_ ?_ ?_)<;>exact pre)|exact side)|apply rR|apply rE|apply rH| (apply cD<;>intro hb<;>(try simp only[SPLT]at hb)<;>try exact noB))
  all_goals try exact false
  exact finR
def passedE (s:Ser) (hold:Int) (l:List Arr) (time:Int):Int:=if askErr s hold l ≠ 0 then askErr s hold l else if outB time 0 2000000000000000=true then 1 else 0
def passedL (s:Ser) (hold:Int) (l:List Arr) (time:Int):List Int:=if passedE s hold l time ≠ 0 then [] else numsOf (runN s hold l time).passed
def atD (s:Ser) (hold:Int) (l:List Arr) (time:Int):D:=
 if passedE s hold l time ≠ 0 then .tup [.pv (.pointer none),.int .i64 (passedE s hold l time)] else .tup [.ptr (((runN s hold l time).ext (skip (l.length - upto time l))).froz s hold l),.int .i64 0]
theorem at_sem (s:Ser) (hold:Int) (l:List Arr) (time:Int) (hd:∀ a ∈ l,a.dig.length≤9223372036854775807) (hl:l.length≤9223372036854775807):Sem Tryd.prog 20 [s.d,.int .i64 hold,.sl 0 3 (l.map Arr.row),.int .i64 time] (atD s hold l time):=by
 have c:=taken_sem s hold l time hd hl
 have o:Sem Tryd.prog 34 [.int .i64 time,.int .i64 0,.int .i64 2000000000000000] (.bool (outB time 0 2000000000000000)):=outside_sem time 0 2000000000000000
 unfold takenD at c
 unfold atD passedE
 by_cases he:askErr s hold l=0
 ·rw [if_neg (by omega)] at c
  rw [if_neg (c:=askErr s hold l ≠ 0) (by omega)]
  generalize (runN s hold l time).ext (skip (l.length - upto time l))=x at c ⊢
  unfold IS.froz at c ⊢
  cases hb0:outB time 0 2000000000000000 with
  |true=>
   rw [hb0] at o
   rw [if_pos rfl,if_pos (by decide)]
   refine si [1000028,1000035,1000036,1000043,1000044,1000046] Tryd.func20 ?_
   repeat'((conv=>whnf);first|(try(first|apply eN|apply eI|apply eC);conv=>whnf);apply sD;(focus first|exact gx c|exact gx o|(refine gx (taken_sem ?_ ?_ ?_ ?_ ?_ ?_)<;>exact pre)|(refine gx (outside_sem ?_ ?_ ?_)<;>exact pre)|exact side)|apply rR|apply rE|apply rH| (apply cD<;>intro hb<;>(try simp only[SPLT]at hb)<;>try exact noB))
   all_goals try exact false
   exact finR
  |false=>
   rw [hb0] at o
   rw [if_neg (c:=false=true) (by decide),if_neg (by decide)]
   refine si [1000028,1000035,1000036,1000043,1000044,1000046] Tryd.func20 ?_
   repeat'((conv=>whnf);first|(try(first|apply eN|apply eI|apply eC);conv=>whnf);apply sD;(focus first|exact gx c|exact gx o|(refine gx (taken_sem ?_ ?_ ?_ ?_ ?_ ?_)<;>exact pre)|(refine gx (outside_sem ?_ ?_ ?_)<;>exact pre)|exact side)|apply rR|apply rE|apply rH| (apply cD<;>intro hb<;>(try simp only[SPLT]at hb)<;>try exact noB))
   all_goals try exact false
   exact finR
 ·rw [if_pos he] at c ⊢
  rw [if_pos he]
  generalize askErr s hold l=e at c he ⊢
  refine si [1000028,1000035,1000036,1000043,1000044,1000046] Tryd.func20 ?_
  repeat'((conv=>whnf);first|(try(first|apply eN|apply eI|apply eC);conv=>whnf);apply sD;(focus first|exact gx c|(refine gx (taken_sem ?_ ?_ ?_ ?_ ?_ ?_)<;>exact pre)|(refine gx (outside_sem ?_ ?_ ?_)<;>exact pre)|exact side)|apply rR|apply rE|apply rH| (apply cD<;>intro hb<;>(try simp only[SPLT]at hb)<;>try exact noB))
  all_goals try exact false
  exact finR
theorem passed_sem (s:Ser) (hold:Int) (l:List Arr) (time:Int) (hd:∀ a ∈ l,a.dig.length≤9223372036854775807) (hl:l.length≤9223372036854775807):Sem Tryd.prog 8 [s.d,.int .i64 hold,.sl 0 3 (l.map Arr.row),.int .i64 time] (.tup [.sl 0 1 (numRows (passedL s hold l time)),.int .i64 (passedE s hold l time)]):=by
 have c:=at_sem s hold l time hd hl
 unfold atD at c
 unfold passedL
 by_cases he:passedE s hold l time=0
 ·rw [if_neg (by omega)] at c
  rw [if_neg (by omega),he]
  have hp:numRows (numsOf (runN s hold l time).passed)=((runN s hold l time).ext (skip (l.length - upto time l))).passed.map fun y => [D.int .i64 y.num]:=by
   unfold numRows numsOf
   rw [List.map_map]
   rfl
  rw [hp]
  generalize (runN s hold l time).ext (skip (l.length - upto time l))=x at c ⊢
  unfold IS.froz at c
  refine si [1000028,1000035,1000036,1000043,1000044,1000046] Tryd.func8 ?_
  repeat'((conv=>whnf);first|(try(first|apply eN|apply eI|apply eC);conv=>whnf);apply sD;(focus first|exact gx c|(refine gx (at_sem ?_ ?_ ?_ ?_ ?_ ?_)<;>exact pre)|exact side)|apply rR|apply rE|apply rH| (apply cD<;>intro hb<;>(try simp only[SPLT]at hb)<;>try exact noB))
  all_goals try exact false
  exact finR
 ·rw [if_pos he] at c ⊢
  generalize passedE s hold l time=e at c he ⊢
  refine si [1000028,1000035,1000036,1000043,1000044,1000046] Tryd.func8 ?_
  repeat'((conv=>whnf);first|(try(first|apply eN|apply eI|apply eC);conv=>whnf);apply sD;(focus first|exact gx c|(refine gx (at_sem ?_ ?_ ?_ ?_ ?_ ?_)<;>exact pre)|exact side)|apply rR|apply rE|apply rH| (apply cD<;>intro hb<;>(try simp only[SPLT]at hb)<;>try exact noB))
  all_goals try exact false
  exact finR
end Go.Proofs.YtalejlbiccdfjaaDoor
