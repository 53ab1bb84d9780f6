/- Arrivals: the program follows them up to a time. -/
import Derived.Test.YtalejlbiccdfjaaDoorZ12
namespace Go.Proofs.YtalejlbiccdfjaaDoor
set_option linter.unusedSimpArgs false
set_option linter.unusedVariables false
open Go.RowKit
set_option maxRecDepth 100000
set_option maxHeartbeats 4000000
def IS.froz (s:Ser) (hold:Int) (l:List Arr) (t:IS):List D := [.int .i64 s.first,.int .i64 s.last,.int .i64 hold,.sl 0 3 (l.map Arr.row),.int .i64 t.e,.fmp (.int .i64) (plV t.held),.fmp (.int .i64) (laV t.passed),.sl 0 2 (t.out.map Vd.row),.sl 0 1 (t.passed.map fun y => [.int .i64 y.num])]
def skip (n:Nat):List Vd:=List.replicate n ⟨0,-1⟩
def takN (s:Ser) (hold:Int) (l:List Arr) (time:Int) (k:Nat):IS:=(comeN s hold l (min k (upto time l))).ext (skip (k - upto time l))
theorem ext_nil (t:IS):t.ext []=t:=by
 unfold IS.ext
 rw [List.append_nil]
theorem ext_ext (t:IS) (a b:List Vd):(t.ext a).ext b=t.ext (a++b):=by
 unfold IS.ext
 rw [List.append_assoc]
theorem takN_ok {s:Ser} {hold:Int} {l:List Arr} (hs:0 < sizeN s) (hs2:sizeN s≤1000000000000000) (time:Int) (k:Nat) (hk:k≤l.length):(takN s hold l time k).Ok k (k * 1000000000000002):=by
 have h:=comeN_ok (s:=s) (hold:=hold) (l:=l) hs hs2 (min k (upto time l)) (by omega)
 have h2:=ext_ok (skip (k - upto time l)) h
 have e:min k (upto time l)+(skip (k - upto time l)).length=k:=by unfold skip;rw [List.length_replicate];omega
 rw [e] at h2
 have hm:((min k (upto time l):Nat):Int) * 1000000000000002≤(k:Int) * 1000000000000002:=by omega
 exact ⟨⟨h2.nums,h2.pnums,h2.inc,h2.dist,h2.ge,fun y hy=>Int.le_trans (h2.le y hy) hm,h2.lo,Int.le_trans h2.hi (by omega),h2.few,h2.out⟩,h2.gt⟩
theorem takN_lo {s:Ser} {hold:Int} {l:List Arr} {time:Int} {k:Nat} (h:k≤upto time l):takN s hold l time k=comeN s hold l k:=by
 unfold takN
 rw [Nat.min_eq_left h,Nat.sub_eq_zero_of_le h]
 exact ext_nil _
theorem takN_skip {s:Ser} {hold:Int} {l:List Arr} {time:Int} {k:Nat} (h:upto time l≤k):takN s hold l time (k+1)=(takN s hold l time k).ext [⟨0,-1⟩]:=by
 unfold takN
 rw [Nat.min_eq_right h,Nat.min_eq_right (by omega),ext_ext]
 congr 1
 unfold skip
 rw [show k+1 - upto time l=(k - upto time l)+1 by omega,List.replicate_succ']
theorem takN_end {s:Ser} {hold:Int} {l:List Arr} (hs:0 < sizeN s) (hs2:sizeN s≤1000000000000000) (time:Int):(takN s hold l time l.length).give l hold time=(runN s hold l time).ext (skip (l.length - upto time l)):=by
 have hu:=upto_le time l
 unfold takN runN
 rw [Nat.min_eq_right hu]
 exact give_tail _ _ (comeN_ok hs hs2 _ hu)
def takenD (s:Ser) (hold:Int) (l:List Arr) (time:Int):D:=
 if askErr s hold l ≠ 0 then .tup [.pv (.pointer none),.int .i64 (askErr s hold l)] else .tup [.ptr (((runN s hold l time).ext (skip (l.length - upto time l))).froz s hold l),.int .i64 0]
theorem arrs_time:∀ {l:List Arr} {p:Option Int},arrs p l=0→∀ a ∈ l,0≤a.time∧a.time≤1000000000000000
 |b::l,p,h,a,ha=>by
  unfold arrs at h
  split at h
  ·omega
  ·rename_i h1
   rcases List.mem_cons.1 ha with rfl|ha
   ·unfold arrF at h1
    split at h1
    ·omega
    ·rename_i h2
     simp only [momB,Bool.not_eq_false',Bool.not_eq_true,Bool.or_eq_true,decide_eq_true_eq] at h2
     simp at h2
     omega
   ·exact arrs_time h a ha
theorem all_drop {l:List Arr} {k:Nat} {a:Arr} (s:Ser) (h:l[k]?=some a):allOf s (l.drop k)=(isOfB s a.num && allOf s (l.drop (k+1))):=by
 rw [List.drop_eq_getElem?_toList_append,h]
 rfl
theorem taken_sem (s:Ser) (hold:Int) (l:List Arr) (time:Int) (hd:∀ a ∈ l,a.dig.length≤9223372036854775807) (hl:l.length≤9223372036854775807):Sem Tryd.prog 18 [s.d,.int .i64 hold,.sl 0 3 (l.map Arr.row),.int .i64 time] (takenD s hold l time):=by
 have hll:(l.map Arr.row).length=l.length:=List.length_map _
 have c1:=checkSeries_sem s
 have c2:=checkArrivals_sem l hd hl
 have c3:=outside_sem hold 1 100000000
 unfold takenD
 by_cases e1:seriesFaultN s=0
 ·rw [e1] at c1
  by_cases e2:arrErr l=0
  ·rw [e2] at c2
   have hl2:l.length≤1000:=by
    unfold arrErr at e2
    split at e2
    ·omega
    ·omega
   generalize hall:allOf s l=al
   cases al with
   |false=>
    have ea:askErr s hold l=1:=by unfold askErr;rw [if_neg (by omega),if_neg (by omega),if_pos hall]
    rw [if_pos (by rw [ea];decide),ea]
    refine si [13,2000013,8000046,46,4000046,9000008,1000028,1000035,1000036,1000043,1000044,1000046] Tryd.func18 ?_
    repeat'((conv=>whnf);first|(try(first|apply eN|apply eI|apply eC);conv=>whnf);apply sD;(focus first|exact gx c1|exact gx c2|(refine gx (checkSeries_sem ?_)<;>exact pre)|(refine gx (checkArrivals_sem ?_ ?_ ?_)<;>exact pre)|(refine gx (isOf_sem ?_ ?_)<;>exact pre)|(refine gx (outside_sem ?_ ?_ ?_)<;>exact pre)|exact side)|((with_reducible apply CallO.go);(conv=>whnf);(with_reducible apply sD);(focus (first|((apply giveso_go (release_sem _ _ _ _ _ _ _ _ _ _ _));(focus (first|exact rfl|(simp;done)));(focus (exact DLes.au));exact rfl;(all_goals (exact pre)))|((apply giveso_go (arrive_sem _ _ _ _ _ _ _ _ _ _ _));(focus (first|exact rfl|(simp;done)));(focus (exact DLes.au));exact rfl;(all_goals (exact pre))))))|apply rR|apply rE|apply rH| (apply cD<;>intro hb<;>(try simp only[SPLT]at hb)<;>try exact noB))
    all_goals try exact false
    refine loop_go (M:=fun t=>mem t [13,2000013,8000046,46,4000046,9000008,1000028,1000035,1000036,1000043,1000044,1000046]) hT hM (fun k:Nat => [(28,.int .i64 k)]) (fun k=>k≤l.length∧allOf s (l.drop k)=false) (fun k=>l.length - k) (0) ?_ ?_ ?_
    ·exact finF
    ·exact ⟨by omega,hall⟩
    ·rintro k ⟨hk,hv⟩
     rcases hx:l[k]? with _|a
     ·have hm:=List.getElem?_eq_none_iff.1 hx
      rw [List.drop_of_length_le hm] at hv
      cases hv
     ·have hlt:=(gLt hx)
      have c4:Sem Tryd.prog 33 [s.d,.int .i64 a.num] (.bool (isOfB s a.num)):=isOf_sem s a.num
      rw [all_drop s hx] at hv
      cases hof:isOfB s a.num with
      |false=>
       rw [hof] at c4
       repeat'((conv=>whnf);first|(try(first|apply eN|apply eI|apply eC);conv=>whnf);apply sD;(focus first|(exact idx_eq (f:=Arr.row) hx rfl)|exact gx c4|(refine gx (checkSeries_sem ?_)<;>exact pre)|(refine gx (checkArrivals_sem ?_ ?_ ?_)<;>exact pre)|(refine gx (isOf_sem ?_ ?_)<;>exact pre)|(refine gx (outside_sem ?_ ?_ ?_)<;>exact pre)|exact side)|((with_reducible apply CallO.go);(conv=>whnf);(with_reducible apply sD);(focus (first|((apply giveso_go (release_sem _ _ _ _ _ _ _ _ _ _ _));(focus (first|exact rfl|(simp;done)));(focus (exact DLes.au));exact rfl;(all_goals (exact pre)))|((apply giveso_go (arrive_sem _ _ _ _ _ _ _ _ _ _ _));(focus (first|exact rfl|(simp;done)));(focus (exact DLes.au));exact rfl;(all_goals (exact pre))))))|apply rR|apply rE|apply rH| (apply cD<;>intro hb<;>(try simp only[SPLT]at hb)<;>try exact noB))
       all_goals try exact false
       exact finR
      |true=>
       rw [hof] at c4 hv
       repeat'((conv=>whnf);first|(try(first|apply eN|apply eI|apply eC);conv=>whnf);apply sD;(focus first|(exact idx_eq (f:=Arr.row) hx rfl)|exact gx c4|(refine gx (checkSeries_sem ?_)<;>exact pre)|(refine gx (checkArrivals_sem ?_ ?_ ?_)<;>exact pre)|(refine gx (isOf_sem ?_ ?_)<;>exact pre)|(refine gx (outside_sem ?_ ?_ ?_)<;>exact pre)|exact side)|((with_reducible apply CallO.go);(conv=>whnf);(with_reducible apply sD);(focus (first|((apply giveso_go (release_sem _ _ _ _ _ _ _ _ _ _ _));(focus (first|exact rfl|(simp;done)));(focus (exact DLes.au));exact rfl;(all_goals (exact pre)))|((apply giveso_go (arrive_sem _ _ _ _ _ _ _ _ _ _ _));(focus (first|exact rfl|(simp;done)));(focus (exact DLes.au));exact rfl;(all_goals (exact pre))))))|apply rR|apply rE|apply rH| (apply cD<;>intro hb<;>(try simp only[SPLT]at hb)<;>try exact noB))
       all_goals try exact false
       refine ⟨k+1,⟨by omega,hv⟩,by omega,?_⟩
       exact finF
   |true=>
    by_cases e3:outB hold 1 100000000=true
    ·have ea:askErr s hold l=1:=by unfold askErr;rw [if_neg (by omega),if_neg (by omega),if_neg (by rw [hall];simp),if_pos e3]
     rw [if_pos (by rw [ea];decide),ea]
     have c3:Sem Tryd.prog 34 [.int .i64 hold,.int .i64 1,.int .i64 100000000] (.bool (outB hold 1 100000000)):=c3
     rw [e3] at c3
     refine si [13,2000013,8000046,46,4000046,9000008,1000028,1000035,1000036,1000043,1000044,1000046] Tryd.func18 ?_
     repeat'((conv=>whnf);first|(try(first|apply eN|apply eI|apply eC);conv=>whnf);apply sD;(focus first|exact gx c1|exact gx c2|(refine gx (checkSeries_sem ?_)<;>exact pre)|(refine gx (checkArrivals_sem ?_ ?_ ?_)<;>exact pre)|(refine gx (isOf_sem ?_ ?_)<;>exact pre)|(refine gx (outside_sem ?_ ?_ ?_)<;>exact pre)|exact side)|((with_reducible apply CallO.go);(conv=>whnf);(with_reducible apply sD);(focus (first|((apply giveso_go (release_sem _ _ _ _ _ _ _ _ _ _ _));(focus (first|exact rfl|(simp;done)));(focus (exact DLes.au));exact rfl;(all_goals (exact pre)))|((apply giveso_go (arrive_sem _ _ _ _ _ _ _ _ _ _ _));(focus (first|exact rfl|(simp;done)));(focus (exact DLes.au));exact rfl;(all_goals (exact pre))))))|apply rR|apply rE|apply rH| (apply cD<;>intro hb<;>(try simp only[SPLT]at hb)<;>try exact noB))
     all_goals try exact false
     refine loop_go (M:=fun t=>mem t [13,2000013,8000046,46,4000046,9000008,1000028,1000035,1000036,1000043,1000044,1000046]) hT hM (fun k:Nat => [(28,.int .i64 k)]) (fun k=>k≤l.length∧allOf s (l.drop k)=true) (fun k=>l.length - k) (0) ?_ ?_ ?_
     ·exact finF
     ·exact ⟨by omega,hall⟩
     ·rintro k ⟨hk,hv⟩
      rcases hx:l[k]? with _|a
      ·have hm:=List.getElem?_eq_none_iff.1 hx
       repeat'((conv=>whnf);first|(try(first|apply eN|apply eI|apply eC);conv=>whnf);apply sD;(focus first|exact gx c3|(refine gx (checkSeries_sem ?_)<;>exact pre)|(refine gx (checkArrivals_sem ?_ ?_ ?_)<;>exact pre)|(refine gx (isOf_sem ?_ ?_)<;>exact pre)|(refine gx (outside_sem ?_ ?_ ?_)<;>exact pre)|exact side)|((with_reducible apply CallO.go);(conv=>whnf);(with_reducible apply sD);(focus (first|((apply giveso_go (release_sem _ _ _ _ _ _ _ _ _ _ _));(focus (first|exact rfl|(simp;done)));(focus (exact DLes.au));exact rfl;(all_goals (exact pre)))|((apply giveso_go (arrive_sem _ _ _ _ _ _ _ _ _ _ _));(focus (first|exact rfl|(simp;done)));(focus (exact DLes.au));exact rfl;(all_goals (exact pre))))))|apply rR|apply rE|apply rH| (apply cD<;>intro hb<;>(try simp only[SPLT]at hb)<;>try exact noB))
       all_goals try exact false
       exact finR
      ·have hlt:=(gLt hx)
       have c4:Sem Tryd.prog 33 [s.d,.int .i64 a.num] (.bool (isOfB s a.num)):=isOf_sem s a.num
       rw [all_drop s hx,Bool.and_eq_true] at hv
       rw [hv.1] at c4
       repeat'((conv=>whnf);first|(try(first|apply eN|apply eI|apply eC);conv=>whnf);apply sD;(focus first|(exact idx_eq (f:=Arr.row) hx rfl)|exact gx c4|(refine gx (checkSeries_sem ?_)<;>exact pre)|(refine gx (checkArrivals_sem ?_ ?_ ?_)<;>exact pre)|(refine gx (isOf_sem ?_ ?_)<;>exact pre)|(refine gx (outside_sem ?_ ?_ ?_)<;>exact pre)|exact side)|((with_reducible apply CallO.go);(conv=>whnf);(with_reducible apply sD);(focus (first|((apply giveso_go (release_sem _ _ _ _ _ _ _ _ _ _ _));(focus (first|exact rfl|(simp;done)));(focus (exact DLes.au));exact rfl;(all_goals (exact pre)))|((apply giveso_go (arrive_sem _ _ _ _ _ _ _ _ _ _ _));(focus (first|exact rfl|(simp;done)));(focus (exact DLes.au));exact rfl;(all_goals (exact pre))))))|apply rR|apply rE|apply rH| (apply cD<;>intro hb<;>(try simp only[SPLT]at hb)<;>try exact noB))
       all_goals try exact false
       refine ⟨k+1,⟨by omega,hv.2⟩,by omega,?_⟩
       exact finF
    ·have ea:askErr s hold l=0:=by unfold askErr;rw [if_neg (by omega),if_neg (by omega),if_neg (by rw [hall];simp),if_neg e3]
     rw [if_neg (by rw [ea];decide)]
     have c3:Sem Tryd.prog 34 [.int .i64 hold,.int .i64 1,.int .i64 100000000] (.bool (outB hold 1 100000000)):=c3
     have e3:outB hold 1 100000000=false:=by simpa using e3
     rw [e3] at c3
     have hh:1≤hold∧hold≤100000000:=by
      unfold outB at e3
      simp at e3
      omega
     have hz:=sizeN_bd s e1
     have e1':=e1
     have hin:∀ a ∈ l,s.first≤a.num∧a.num≤s.last:=fun a ha=>by
      have:=List.all_eq_true.1 hall a ha
      simp [isOfB,outB] at this
      omega
     have htm:=arrs_time (l:=l) (p:=none) (by unfold arrErr at e2;rw [if_neg (by omega)] at e2;exact e2)
     have hup:=fun (k:Nat) (a:Arr) (hx:l[k]?=some a)=>upto_at (time:=time) (p:=none) (by unfold arrErr at e2;rw [if_neg (by omega)] at e2;exact e2) hx
     refine si [13,2000013,8000046,46,4000046,9000008,1000028,1000035,1000036,1000043,1000044,1000046] Tryd.func18 ?_
     repeat'((conv=>whnf);first|(try(first|apply eN|apply eI|apply eC);conv=>whnf);apply sD;(focus first|exact gx c1|exact gx c2|(refine gx (checkSeries_sem ?_)<;>exact pre)|(refine gx (checkArrivals_sem ?_ ?_ ?_)<;>exact pre)|(refine gx (isOf_sem ?_ ?_)<;>exact pre)|(refine gx (outside_sem ?_ ?_ ?_)<;>exact pre)|exact side)|((with_reducible apply CallO.go);(conv=>whnf);(with_reducible apply sD);(focus (first|((apply giveso_go (release_sem _ _ _ _ _ _ _ _ _ _ _));(focus (first|exact rfl|(simp;done)));(focus (exact DLes.au));exact rfl;(all_goals (exact pre)))|((apply giveso_go (arrive_sem _ _ _ _ _ _ _ _ _ _ _));(focus (first|exact rfl|(simp;done)));(focus (exact DLes.au));exact rfl;(all_goals (exact pre))))))|apply rR|apply rE|apply rH| (apply cD<;>intro hb<;>(try simp only[SPLT]at hb)<;>try exact noB))
     all_goals try exact false
     refine loop_go (M:=fun t=>mem t [13,2000013,8000046,46,4000046,9000008,1000028,1000035,1000036,1000043,1000044,1000046]) hT hM (fun k:Nat => [(28,.int .i64 k)]) (fun k=>k≤l.length∧allOf s (l.drop k)=true) (fun k=>l.length - k) (0) ?_ ?_ ?_
     ·exact finF
     ·exact ⟨by omega,hall⟩
     ·rintro k ⟨hk,hv⟩
      rcases hx:l[k]? with _|a
      ·have hm:=List.getElem?_eq_none_iff.1 hx
       repeat'((conv=>whnf);first|(try(first|apply eN|apply eI|apply eC);conv=>whnf);apply sD;(focus first|exact gx c3|(refine gx (checkSeries_sem ?_)<;>exact pre)|(refine gx (checkArrivals_sem ?_ ?_ ?_)<;>exact pre)|(refine gx (isOf_sem ?_ ?_)<;>exact pre)|(refine gx (outside_sem ?_ ?_ ?_)<;>exact pre)|exact side)|((with_reducible apply CallO.go);(conv=>whnf);(with_reducible apply sD);(focus (first|((apply giveso_go (release_sem _ _ _ _ _ _ _ _ _ _ _));(focus (first|exact rfl|(simp;done)));(focus (exact DLes.au));exact rfl;(all_goals (exact pre)))|((apply giveso_go (arrive_sem _ _ _ _ _ _ _ _ _ _ _));(focus (first|exact rfl|(simp;done)));(focus (exact DLes.au));exact rfl;(all_goals (exact pre))))))|apply rR|apply rE|apply rH| (apply cD<;>intro hb<;>(try simp only[SPLT]at hb)<;>try exact noB))
       all_goals try exact false
       refine ht_nil [(46,7,2),(46,8,1)] ?_
       conv=>whnf
       refine loop_go (M:=fun t=>mem t [13,2000013,8000046,46,4000046,9000008,1000028,1000035,1000036,1000043,1000044,1000046]) hT hM (fun k:Nat => [(49,.int .i64 k),(46,.obj ((takN s hold l time k).cells s hold l))]) (fun k=>k≤l.length) (fun k=>l.length - k) (0) ?_ ?_ ?_
       ·(conv=>whnf)
        refine ⟨?_,by rfl⟩
        repeat' ((conv=>whnf);first|exact endF|(exact DLe.of_eq (by rw [takN_lo (Nat.zero_le _)];rfl))|exact endF2|with_reducible apply dC)
       ·omega
       ·intro k hk
        dsimp only at hk ⊢
        have hz0:0 < sizeN s:=by omega
        have hok:=takN_ok (s:=s) (hold:=hold) (l:=l) hz0 hz.2 time k hk
        have hol:=hok.out
        rcases hx2:l[k]? with _|a
        ·have hke:k=l.length:=by have:=List.getElem?_eq_none_iff.1 hx2;omega
         subst hke
         have hrel:=release_sem s hold l _ time hok (Nat.le_refl _) (by omega) (by omega) ⟨by omega,by omega⟩ htm
         rw [takN_end hz0 hz.2] at hrel
         generalize (runN s hold l time).ext (skip (l.length - upto time l))=y at hrel ⊢
         generalize takN s hold l time l.length=x at hrel ⊢
         unfold IS.cells at hrel ⊢
         unfold IS.froz
         repeat'((conv=>whnf);first|(try(first|apply eN|apply eI|apply eC);conv=>whnf);apply sD;(focus first|(refine gx (checkSeries_sem ?_)<;>exact pre)|(refine gx (checkArrivals_sem ?_ ?_ ?_)<;>exact pre)|(refine gx (isOf_sem ?_ ?_)<;>exact pre)|(refine gx (outside_sem ?_ ?_ ?_)<;>exact pre)|exact side)|((with_reducible apply CallO.go);(conv=>whnf);(with_reducible apply sD);(focus (first|((apply giveso_go (hrel));(focus (first|exact rfl|(simp;done)));(focus (exact DLes.au));exact rfl;(all_goals (exact pre))))))|apply rR|apply rE|apply rH| (apply cD<;>intro hb<;>(try simp only[SPLT]at hb)<;>try exact noB))
         all_goals try exact false
         exact finR
        ·have hlt2:=(gLt hx2)
         by_cases hc:a.time≤time
         ·have hku:=(hup k a hx2).1 hc
          have e0:=takN_lo (s:=s) (hold:=hold) (Nat.le_of_lt hku)
          have e1:=takN_lo (s:=s) (hold:=hold) (k:=k+1) (time:=time) (l:=l) hku
          rw [e0] at hok hol ⊢
          obtain ⟨p1,p2,p3⟩:=come_pre hx2 hok
          have hrel:=release_sem s hold l _ a.time (ext_ok [⟨0,-1⟩] hok) (show k+1≤l.length by omega) (by omega) (by omega) ⟨by omega,by omega⟩ htm
          rw [give_tail _ _ hok] at hrel
          have harr:=arrive_sem s hold l _ p3 hx2 e1' (hin a (gMem hx2)) hl2 (by omega) (by omega)
          rw [← p1] at harr
          show forceH _ _
          change SemO _ _ _ _ _ (some (.obj (((preN s hold l k a).ext [⟨0,-1⟩]).cells s hold l))) at hrel
          generalize (preN s hold l k a).ext [⟨0,-1⟩]=y at hrel harr
          rw [← e1] at harr
          have hap:((comeN s hold l k).ext [⟨0,-1⟩]).out.map Vd.row=(comeN s hold l k).out.map Vd.row ++ [[.int .i64 0,.int .i64 (-1)]]:=by unfold IS.ext;rw [List.map_append];rfl
          unfold IS.cells at hrel harr ⊢
          rw [hap] at hrel
          generalize comeN s hold l k=x at hrel hol ⊢
          generalize hz1:takN s hold l time (k+1)=z at harr
          repeat'((conv=>whnf);first|(try(first|apply eN|apply eI|apply eC);conv=>whnf);apply sD;(focus first|(exact idx_eq (f:=Arr.row) hx2 rfl)|(refine gx (checkSeries_sem ?_)<;>exact pre)|(refine gx (checkArrivals_sem ?_ ?_ ?_)<;>exact pre)|(refine gx (isOf_sem ?_ ?_)<;>exact pre)|(refine gx (outside_sem ?_ ?_ ?_)<;>exact pre)|exact side)|((with_reducible apply CallO.go);(conv=>whnf);(with_reducible apply sD);(focus (first|((apply giveso_go (hrel));(focus (first|exact rfl|(simp;done)));(focus (exact DLes.au));exact rfl;(all_goals (exact pre)))|((apply giveso_go (harr));(focus (first|exact rfl|(simp;done)));(focus (exact DLes.au));exact rfl;(all_goals (exact pre))))))|apply rR|apply rE|apply rH| (apply cD<;>intro hb<;>(try simp only[SPLT]at hb)<;>try exact noB))
          all_goals try exact false
          refine ⟨k+1,by omega,by omega,?_⟩
          rw [hz1]
          exact finF
         ·have hku:¬ k < upto time l:=fun h=>hc ((hup k a hx2).2 h)
          have e1:=takN_skip (s:=s) (hold:=hold) (k:=k) (time:=time) (l:=l) (by omega)
          generalize takN s hold l time k=x at e1 hol ⊢
          generalize hz1:takN s hold l time (k+1)=z at e1
          have hap:(x.ext [⟨0,-1⟩]).out.map Vd.row=x.out.map Vd.row ++ [[.int .i64 0,.int .i64 (-1)]]:=by unfold IS.ext;rw [List.map_append];rfl
          unfold IS.cells
          repeat'((conv=>whnf);first|(try(first|apply eN|apply eI|apply eC);conv=>whnf);apply sD;(focus first|(exact idx_eq (f:=Arr.row) hx2 rfl)|(refine gx (checkSeries_sem ?_)<;>exact pre)|(refine gx (checkArrivals_sem ?_ ?_ ?_)<;>exact pre)|(refine gx (isOf_sem ?_ ?_)<;>exact pre)|(refine gx (outside_sem ?_ ?_ ?_)<;>exact pre)|exact side)|((with_reducible apply CallO.go);(conv=>whnf);(with_reducible apply sD);(focus (first|((apply giveso_go (release_sem _ _ _ _ _ _ _ _ _ _ _));(focus (first|exact rfl|(simp;done)));(focus (exact DLes.au));exact rfl;(all_goals (exact pre)))|((apply giveso_go (arrive_sem _ _ _ _ _ _ _ _ _ _ _));(focus (first|exact rfl|(simp;done)));(focus (exact DLes.au));exact rfl;(all_goals (exact pre))))))|apply rR|apply rE|apply rH| (apply cD<;>intro hb<;>(try simp only[SPLT]at hb)<;>try exact noB))
          all_goals try exact false
          refine ⟨k+1,by omega,by omega,?_⟩
          rw [hz1,e1]
          (conv=>whnf)
          refine ⟨?_,by rfl⟩
          repeat' ((conv=>whnf);first|exact endF|(exact DLe.of_eq (by rw [hap];rfl))|exact endF2|with_reducible apply dC)
      ·have hlt:=(gLt hx)
       have c4:Sem Tryd.prog 33 [s.d,.int .i64 a.num] (.bool (isOfB s a.num)):=isOf_sem s a.num
       rw [all_drop s hx,Bool.and_eq_true] at hv
       rw [hv.1] at c4
       repeat'((conv=>whnf);first|(try(first|apply eN|apply eI|apply eC);conv=>whnf);apply sD;(focus first|(exact idx_eq (f:=Arr.row) hx rfl)|exact gx c4|(refine gx (checkSeries_sem ?_)<;>exact pre)|(refine gx (checkArrivals_sem ?_ ?_ ?_)<;>exact pre)|(refine gx (isOf_sem ?_ ?_)<;>exact pre)|(refine gx (outside_sem ?_ ?_ ?_)<;>exact pre)|exact side)|((with_reducible apply CallO.go);(conv=>whnf);(with_reducible apply sD);(focus (first|((apply giveso_go (release_sem _ _ _ _ _ _ _ _ _ _ _));(focus (first|exact rfl|(simp;done)));(focus (exact DLes.au));exact rfl;(all_goals (exact pre)))|((apply giveso_go (arrive_sem _ _ _ _ _ _ _ _ _ _ _));(focus (first|exact rfl|(simp;done)));(focus (exact DLes.au));exact rfl;(all_goals (exact pre))))))|apply rR|apply rE|apply rH| (apply cD<;>intro hb<;>(try simp only[SPLT]at hb)<;>try exact noB))
       all_goals try exact false
       refine ⟨k+1,⟨by omega,hv.2⟩,by omega,?_⟩
       exact finF
  ·have ea:askErr s hold l=arrErr l:=by unfold askErr;rw [if_neg (by omega),if_pos e2]
   rw [if_pos (by rw [ea];exact e2),ea]
   refine si [13,2000013,8000046,46,4000046,9000008,1000028,1000035,1000036,1000043,1000044,1000046] Tryd.func18 ?_
   repeat'((conv=>whnf);first|(try(first|apply eN|apply eI|apply eC);conv=>whnf);apply sD;(focus first|exact gx c1|exact gx c2|(refine gx (checkSeries_sem ?_)<;>exact pre)|(refine gx (checkArrivals_sem ?_ ?_ ?_)<;>exact pre)|(refine gx (isOf_sem ?_ ?_)<;>exact pre)|(refine gx (outside_sem ?_ ?_ ?_)<;>exact pre)|exact side)|((with_reducible apply CallO.go);(conv=>whnf);(with_reducible apply sD);(focus (first|((apply giveso_go (release_sem _ _ _ _ _ _ _ _ _ _ _));(focus (first|exact rfl|(simp;done)));(focus (exact DLes.au));exact rfl;(all_goals (exact pre)))|((apply giveso_go (arrive_sem _ _ _ _ _ _ _ _ _ _ _));(focus (first|exact rfl|(simp;done)));(focus (exact DLes.au));exact rfl;(all_goals (exact pre))))))|apply rR|apply rE|apply rH| (apply cD<;>intro hb<;>(try simp only[SPLT]at hb)<;>try exact noB))
   all_goals try exact false
   exact finR
 ·have ea:askErr s hold l=seriesFaultN s:=by unfold askErr;rw [if_pos e1]
  rw [if_pos (by rw [ea];exact e1),ea]
  refine si [13,2000013,8000046,46,4000046,9000008,1000028,1000035,1000036,1000043,1000044,1000046] Tryd.func18 ?_
  repeat'((conv=>whnf);first|(try(first|apply eN|apply eI|apply eC);conv=>whnf);apply sD;(focus first|exact gx c1|(refine gx (checkSeries_sem ?_)<;>exact pre)|(refine gx (checkArrivals_sem ?_ ?_ ?_)<;>exact pre)|(refine gx (isOf_sem ?_ ?_)<;>exact pre)|(refine gx (outside_sem ?_ ?_ ?_)<;>exact pre)|exact side)|((with_reducible apply CallO.go);(conv=>whnf);(with_reducible apply sD);(focus (first|((apply giveso_go (release_sem _ _ _ _ _ _ _ _ _ _ _));(focus (first|exact rfl|(simp;done)));(focus (exact DLes.au));exact rfl;(all_goals (exact pre)))|((apply giveso_go (arrive_sem _ _ _ _ _ _ _ _ _ _ _));(focus (first|exact rfl|(simp;done)));(focus (exact DLes.au));exact rfl;(all_goals (exact pre))))))|apply rR|apply rE|apply rH| (apply cD<;>intro hb<;>(try simp only[SPLT]at hb)<;>try exact noB))
  all_goals try exact false
  exact finR
end Go.Proofs.YtalejlbiccdfjaaDoor
