/- Arrivals: the reference's run and Intake (walks). -/
import Derived.Test.YtalejlbiccdfjaaDoorZ15
import Derived.Test.YtalejlbiccdfjaaDoorZ12
import Derived.Test.YtalejlbiccdfjaaDoorZ14
namespace Go.Proofs.YtalejlbiccdfjaaDoor
set_option linter.unusedSimpArgs false
set_option linter.unusedVariables false
open Go.RowKit
set_option maxRecDepth 100000
set_option maxHeartbeats 4000000
def idl22_1:List (List Bool) := [[false,false,false,false,false,false,false,false,false],[true,false,false,false,false,false,false,false,false],[false,true,false,false,false,false,false,false,false],[false,false,true,false,false,false,false,false,false],[false,false,false,true,false,false,false,false,false],[true,true,false,false,false,false,false,false,false],[true,false,true,false,false,false,false,false,false],[true,false,false,true,false,false,false,false,false],[false,true,true,false,false,false,false,false,false],[false,true,false,true,false,false,false,false,false],[false,false,true,true,false,false,false,false,false],[false,false,false,true,true,false,false,false,false],[true,true,true,false,false,false,false,false,false],[true,true,false,true,false,false,false,false,false],[true,false,true,true,false,false,false,false,false],[true,false,false,true,true,false,false,false,false],[false,true,true,true,false,false,false,false,false],[false,true,false,true,true,false,false,false,false],[false,false,true,true,true,false,false,false,false],[false,false,false,true,true,true,false,false,false],[true,true,true,true,false,false,false,false,false],[true,true,false,true,true,false,false,false,false],[true,false,true,true,true,false,false,false,false],[true,false,false,true,true,true,false,false,false],[false,true,true,true,true,false,false,false,false],[false,true,false,true,true,true,false,false,false],[false,false,true,true,true,true,false,false,false],[true,true,true,true,true,false,false,false,false],[true,true,false,true,true,true,false,false,false],[true,false,true,true,true,true,false,false,false],[false,true,true,true,true,true,false,false,false],[true,true,true,true,true,true,false,false,false],[true,true,true,true,true,true,true,false,false],[true,true,true,true,true,true,true,true,false],[true,true,true,true,true,true,true,true,true]]
def IS.rfroz (s:Ser) (hold:Int) (l:List Arr) (t:IS):List D := [.int .i64 s.first,.int .i64 s.last,.int .i64 hold,.sl 0 3 (l.map Arr.row),.sl 0 2 (t.out.map Vd.row),.int .i64 t.e,.sl 0 2 (t.held.map Sn.row),.sl 0 2 (t.passed.map Sn.row)]
theorem askIntake8_sem (s:Ser) (hold:Int) (l:List Arr) (hd:∀ a ∈ l,a.dig.length≤9223372036854775807) (hl:l.length≤9223372036854775807):Sem Tryd.prog 21 [s.d,.int .i64 hold,.sl 0 3 (l.map Arr.row)] (.int .i64 (askErr s hold l)):=by
 have hll:(l.map Arr.row).length=l.length:=List.length_map _
 have c1:=checkSeries8_sem s
 have c2:=checkArrivals8_sem l hd hl
 have c3:Sem Tryd.prog 25 [.int .i64 hold,.int .i64 1,.int .i64 100000000] (.bool (!outB hold 1 100000000)):=within8_sem hold 1 100000000
 unfold askErr
 by_cases e1:seriesFaultN s=0
 ·rw [e1] at c1
  rw [if_neg (by omega)]
  by_cases e2:arrErr l=0
  ·rw [e2] at c2
   rw [if_neg (by omega)]
   have hl2:l.length≤1000:=by
    unfold arrErr at e2
    split at e2<;>omega
   generalize hall:allOf s l=al
   generalize hob:outB hold 1 100000000=ob at c3
   refine si [10,2000010,1000028,1000035,1000036,1000039,1000040,1000043,1000044,1000046,1000050,1000051,1000063] Tryd.func21 ?_
   repeat'((conv=>whnf);first|(try(first|apply eN|apply eI|apply eC);conv=>whnf);apply sD;(focus first|exact gx c1|exact gx c2|(refine gx (checkSeries8_sem ?_)<;>exact pre)|(refine gx (checkArrivals8_sem ?_ ?_ ?_)<;>exact pre)|(refine gx (isOf8_sem ?_ ?_)<;>exact pre)|(refine gx (within8_sem ?_ ?_ ?_)<;>exact pre)|exact side)|apply rR|apply rE|apply rH| (apply cD<;>intro hb<;>(try simp only[SPLT]at hb)<;>try exact noB))
   all_goals try exact false
   refine loop_go (M:=fun t=>mem t [10,2000010,1000028,1000035,1000036,1000039,1000040,1000043,1000044,1000046,1000050,1000051,1000063]) hT hM (fun k:Nat => [(23,.int .i64 k)]) (fun k=>k≤l.length∧allOf s (l.drop k)=al) (fun k=>l.length - k) (0) ?_ ?_ ?_
   ·exact finF
   ·exact ⟨by omega,hall⟩
   ·rintro k ⟨hk,hv⟩
    rcases hx:l[k]? with _|a
    ·have hm:=List.getElem?_eq_none_iff.1 hx
     rw [List.drop_of_length_le hm] at hv
     have hv:al=true:=hv.symm
     subst hv
     cases ob with
     |true=>
      repeat'((conv=>whnf);first|(try(first|apply eN|apply eI|apply eC);conv=>whnf);apply sD;(focus first|exact gx c3|(refine gx (checkSeries8_sem ?_)<;>exact pre)|(refine gx (checkArrivals8_sem ?_ ?_ ?_)<;>exact pre)|(refine gx (isOf8_sem ?_ ?_)<;>exact pre)|(refine gx (within8_sem ?_ ?_ ?_)<;>exact pre)|exact side)|apply rR|apply rE|apply rH| (apply cD<;>intro hb<;>(try simp only[SPLT]at hb)<;>try exact noB))
      all_goals try exact false
      exact finR
     |false=>
      repeat'((conv=>whnf);first|(try(first|apply eN|apply eI|apply eC);conv=>whnf);apply sD;(focus first|exact gx c3|(refine gx (checkSeries8_sem ?_)<;>exact pre)|(refine gx (checkArrivals8_sem ?_ ?_ ?_)<;>exact pre)|(refine gx (isOf8_sem ?_ ?_)<;>exact pre)|(refine gx (within8_sem ?_ ?_ ?_)<;>exact pre)|exact side)|apply rR|apply rE|apply rH| (apply cD<;>intro hb<;>(try simp only[SPLT]at hb)<;>try exact noB))
      all_goals try exact false
      exact finR
    ·have hlt:=(gLt hx)
     have c4:=isOf8_sem s a.num
     unfold Ser.d at c4 ⊢
     rw [all_drop s hx] at hv
     cases hof:isOfB s a.num with
     |false=>
      rw [hof] at c4 hv
      have hv:al=false:=hv.symm
      subst hv
      repeat'((conv=>whnf);first|(try(first|apply eN|apply eI|apply eC);conv=>whnf);apply sD;(focus first|(exact idx_eq (f:=Arr.row) hx rfl)|exact gx c4|(refine gx (checkSeries8_sem ?_)<;>exact pre)|(refine gx (checkArrivals8_sem ?_ ?_ ?_)<;>exact pre)|(refine gx (isOf8_sem ?_ ?_)<;>exact pre)|(refine gx (within8_sem ?_ ?_ ?_)<;>exact pre)|exact side)|apply rR|apply rE|apply rH| (apply cD<;>intro hb<;>(try simp only[SPLT]at hb)<;>try exact noB))
      all_goals try exact false
      exact finR
     |true=>
      rw [hof] at c4 hv
      repeat'((conv=>whnf);first|(try(first|apply eN|apply eI|apply eC);conv=>whnf);apply sD;(focus first|(exact idx_eq (f:=Arr.row) hx rfl)|exact gx c4|(refine gx (checkSeries8_sem ?_)<;>exact pre)|(refine gx (checkArrivals8_sem ?_ ?_ ?_)<;>exact pre)|(refine gx (isOf8_sem ?_ ?_)<;>exact pre)|(refine gx (within8_sem ?_ ?_ ?_)<;>exact pre)|exact side)|apply rR|apply rE|apply rH| (apply cD<;>intro hb<;>(try simp only[SPLT]at hb)<;>try exact noB))
      all_goals try exact false
      refine ⟨k+1,⟨by omega,hv⟩,by omega,?_⟩
      exact finF
  ·rw [if_pos e2]
   generalize arrErr l=e at c2 e2
   refine si [10,2000010,1000028,1000035,1000036,1000039,1000040,1000043,1000044,1000046,1000050,1000051,1000063] Tryd.func21 ?_
   repeat'((conv=>whnf);first|(try(first|apply eN|apply eI|apply eC);conv=>whnf);apply sD;(focus first|exact gx c1|exact gx c2|(refine gx (checkSeries8_sem ?_)<;>exact pre)|(refine gx (checkArrivals8_sem ?_ ?_ ?_)<;>exact pre)|(refine gx (isOf8_sem ?_ ?_)<;>exact pre)|(refine gx (within8_sem ?_ ?_ ?_)<;>exact pre)|exact side)|apply rR|apply rE|apply rH| (apply cD<;>intro hb<;>(try simp only[SPLT]at hb)<;>try exact noB))
   all_goals try exact false
   exact finR
 ·rw [if_pos e1]
  generalize seriesFaultN s=e at c1 e1
  refine si [10,2000010,1000028,1000035,1000036,1000039,1000040,1000043,1000044,1000046,1000050,1000051,1000063] Tryd.func21 ?_
  repeat'((conv=>whnf);first|(try(first|apply eN|apply eI|apply eC);conv=>whnf);apply sD;(focus first|exact gx c1|(refine gx (checkSeries8_sem ?_)<;>exact pre)|(refine gx (checkArrivals8_sem ?_ ?_ ?_)<;>exact pre)|(refine gx (isOf8_sem ?_ ?_)<;>exact pre)|(refine gx (within8_sem ?_ ?_ ?_)<;>exact pre)|exact side)|apply rR|apply rE|apply rH| (apply cD<;>intro hb<;>(try simp only[SPLT]at hb)<;>try exact noB))
  all_goals try exact false
  exact finR
structure Fine (s:Ser) (hold:Int) (l:List Arr):Prop where
 ser:seriesFaultN s=0
 arr:arrs none l=0
 few:l.length≤1000
 hold:1≤hold∧hold≤100000000
 nums:∀ a ∈ l,s.first≤a.num∧a.num≤s.last
 time:∀ a ∈ l,0≤a.time∧a.time≤1000000000000000
theorem fine_of {s:Ser} {hold:Int} {l:List Arr} (he:askErr s hold l=0):Fine s hold l:=by
 have hE:seriesFaultN s=0∧arrErr l=0∧allOf s l=true∧outB hold 1 100000000=false:=by
  unfold askErr at he
  split at he
  ·omega
  ·split at he
   ·omega
   ·split at he
    ·omega
    ·split at he
     ·omega
     ·exact ⟨by omega,by omega,by simpa using (by assumption:¬ allOf s l=false),by simpa using (by assumption:¬ outB hold 1 100000000=true)⟩
 have hA:l.length≤1000∧arrs none l=0:=by
  have:=hE.2.1
  unfold arrErr at this
  split at this
  ·omega
  ·exact ⟨by omega,this⟩
 refine ⟨hE.1,hA.2,hA.1,?_,fun a ha => ?_,arrs_time hA.2⟩
 ·have:=hE.2.2.2
  unfold outB at this
  simp at this
  omega
 ·have:=List.all_eq_true.1 hE.2.2.1 a ha
  simp [isOfB,outB] at this
  omega
theorem ht_low {P:Program} (L:List (Nat × Nat)) {c:Code} {fr:List D} {Q:Exit→List D→Prop} (h:forceL (L.foldl (fun fr x=>downC1 x.1 x.2 fr) fr) fun fr=>HT P c fr Q):HT P c fr Q:=by
 rw [forceL_eq] at h
 have go:∀ (L:List (Nat × Nat)) {S:Sig} {w:World} {a:Act} {fr:List D},FR S w a fr→∃ S',Trans S w S' w∧FR S' w a (L.foldl (fun fr x=>downC1 x.1 x.2 fr) fr):=by
  intro L
  induction L with
  |nil=>intro S w a fr h;exact ⟨S,Trans.refl S w,h⟩
  |cons x L ih=>
   intro S w a fr h
   obtain ⟨S1,t1,h1⟩:=downC1_sound h x.1 x.2
   obtain ⟨S2,t2,h2⟩:=ih h1
   exact ⟨S2,t1.trans t2,h2⟩
 refine ⟨fun S w a hF Q' hQ => ?_⟩
 obtain ⟨S',t,hF'⟩:=go L hF
 exact h.h S' w a hF' Q' fun e fr' S'' w' a' hq ht hf=>hQ e fr' S'' w' a' hq (t.trans ht) hf
theorem run8_sem (s:Ser) (hold:Int) (l:List Arr) (time:Int) (hF:Fine s hold l):Sem Tryd.prog 22 [s.d,.int .i64 hold,.sl 0 3 (l.map Arr.row),.int .i64 time] (.ptr (((runN s hold l time).ext (zeros (l.length - upto time l))).rfroz s hold l)):=by
 have hll:(l.map Arr.row).length=l.length:=List.length_map _
 have hl2:=hF.few
 have hz:=sizeN_bd s hF.ser
 have hz0:0 < sizeN s:=by omega
 have hh:=hF.hold
 have hup:=fun (k:Nat) (a:Arr) (hx:l[k]?=some a)=>upto_at (time:=time) hF.arr hx
 have h0:runK s hold l time 0=⟨0,[],[],zeros l.length⟩:=by
  rw [runK_lo (Nat.zero_le _)]
  rfl
 have hrep:(zeros l.length).map Vd.row=List.replicate ((l.map Arr.row).length:Int).toNat (zeroD [Value.int IntKind.i64 0,Value.int IntKind.i64 0]):=by
  unfold zeros
  rw [List.map_replicate,hll,Int.toNat_natCast]
  rfl
 refine si [5000001,7000018,19,4000019,9000008,11,2000011,1000028,1000035,1000036,1000039,1000040,1000043,1000044,1000046,1000050,1000051,1000063] Tryd.func22 ?_
 repeat'((conv=>whnf);first|((with_reducible apply DrawI.at 12 idl22_1);exact rfl;kernel_rfl)|with_reducible apply ExE.go|((with_reducible apply EqF.mk);exact rfl)|with_reducible apply AndI.mk|with_reducible exact trivial|(try(first|apply eN|apply eI|apply eC);conv=>whnf);apply sD;(focus first|exact side)|((with_reducible apply CallO.go);(conv=>whnf);(with_reducible apply sD);(focus (first|((apply giveso_go (come8_sem _ _ _ _ _ _ _ _ _ _ _ _ _ _ _ _ _ _));(focus (first|exact rfl|(simp;done)));(focus (exact DLes.au));exact rfl;(all_goals (exact pre)))|((apply giveso_go (give8_sem _ _ _ _ _ _ _ _ _ _ _ _));(focus (first|exact rfl|(simp;done)));(focus (exact DLes.au));exact rfl;(all_goals (exact pre))))))|(first|apply dG|apply kB);kernel_rfl|apply rR|apply rE|apply rH| (apply cD<;>intro hb<;>(try simp only[SPLT]at hb)<;>try exact noB))
 all_goals try exact false
 refine ht_nil [(19,6,2),(19,7,2)] ?_
 conv=>whnf
 refine ht_low [(19,6),(19,7)] ?_
 conv=>whnf
 refine loop_go (M:=fun t=>mem t [5000001,7000018,19,4000019,9000008,11,2000011,1000028,1000035,1000036,1000039,1000040,1000043,1000044,1000046,1000050,1000051,1000063]) hT hM (fun k:Nat => [(22,.int .i64 k),(19,.obj ((runK s hold l time k).rcells s hold l))]) (fun k=>k≤l.length) (fun k=>l.length - k) (0) ?_ ?_ ?_
 ·(conv=>whnf)
  refine ⟨?_,by rfl⟩
  repeat' ((conv=>whnf);first|exact endF|(exact DLe.of_eq (by rw [h0];unfold IS.rcells;dsimp only;rw [hrep];rfl))|exact endF2|with_reducible apply dC)
 ·omega
 ·intro k hk
  dsimp only at hk ⊢
  have hrok:=runK_ok (s:=s) (hold:=hold) (l:=l) hz0 hz.2 time k
  rcases hx2:l[k]? with _|a
  ·have hke:k=l.length:=by have:=List.getElem?_eq_none_iff.1 hx2;omega
   subst hke
   have hg:=give8_sem s hold l _ time hrok (Nat.le_refl _) (by omega) (by omega) ⟨by omega,by omega⟩ hF.time cloneOk
   rw [runK_end hz0 hz.2] at hg
   generalize (runN s hold l time).ext (zeros (l.length - upto time l))=y at hg ⊢
   generalize runK s hold l time l.length=x at hg ⊢
   unfold IS.rcells at hg ⊢
   unfold IS.rfroz
   repeat'((conv=>whnf);first|((with_reducible apply DrawI.at 12 idl22_1);exact rfl;kernel_rfl)|with_reducible apply ExE.go|((with_reducible apply EqF.mk);exact rfl)|with_reducible apply AndI.mk|with_reducible exact trivial|(try(first|apply eN|apply eI|apply eC);conv=>whnf);apply sD;(focus first|exact side)|((with_reducible apply CallO.go);(conv=>whnf);(with_reducible apply sD);(focus (first|((apply giveso_go (hg));(focus (first|exact rfl|(simp;done)));(focus (exact DLes.au));exact rfl;(all_goals (exact pre))))))|(first|apply dG|apply kB);kernel_rfl|apply rR|apply rE|apply rH| (apply cD<;>intro hb<;>(try simp only[SPLT]at hb)<;>try exact noB))
   all_goals try exact false
   exact finR
  ·have hlt2:=(gLt hx2)
   by_cases hc:a.time≤time
   ·have hku:=(hup k a hx2).1 hc
    obtain ⟨t,t1,t2,t3,t4⟩:=runK_come (s:=s) (hold:=hold) hz0 hz.2 hku hx2
    have hcm:=come8_sem s hold l _ t hrok t1 t2 t3 hx2 hF.ser (hF.nums a (gMem hx2)) hl2 (by omega) (by omega) ⟨by omega,by omega⟩ hF.time cloneOk
    rw [t4] at hcm
    generalize runK s hold l time k=x at hcm ⊢
    generalize hz1:runK s hold l time (k+1)=z at hcm
    unfold IS.rcells at hcm ⊢
    repeat'((conv=>whnf);first|((with_reducible apply DrawI.at 12 idl22_1);exact rfl;kernel_rfl)|with_reducible apply ExE.go|((with_reducible apply EqF.mk);exact rfl)|with_reducible apply AndI.mk|with_reducible exact trivial|(try(first|apply eN|apply eI|apply eC);conv=>whnf);apply sD;(focus first|(exact idx_eq (f:=Arr.row) hx2 rfl)|exact side)|((with_reducible apply CallO.go);(conv=>whnf);(with_reducible apply sD);(focus (first|((apply giveso_go (hcm));(focus (first|exact rfl|(simp;done)));(focus (exact DLes.au));exact rfl;(all_goals (exact pre))))))|(first|apply dG|apply kB);kernel_rfl|apply rR|apply rE|apply rH| (apply cD<;>intro hb<;>(try simp only[SPLT]at hb)<;>try exact noB))
    all_goals try exact false
    refine ⟨k+1,by omega,by omega,?_⟩
    rw [hz1]
    exact finF
   ·have hku:¬ k < upto time l:=fun h=>hc ((hup k a hx2).2 h)
    have e1:=runK_skip (s:=s) (hold:=hold) (k:=k) (time:=time) (l:=l) (by omega)
    generalize runK s hold l time k=x at e1 ⊢
    unfold IS.rcells
    repeat'((conv=>whnf);first|((with_reducible apply DrawI.at 12 idl22_1);exact rfl;kernel_rfl)|with_reducible apply ExE.go|((with_reducible apply EqF.mk);exact rfl)|with_reducible apply AndI.mk|with_reducible exact trivial|(try(first|apply eN|apply eI|apply eC);conv=>whnf);apply sD;(focus first|(exact idx_eq (f:=Arr.row) hx2 rfl)|exact side)|((with_reducible apply CallO.go);(conv=>whnf);(with_reducible apply sD);(focus (first|((apply giveso_go (come8_sem _ _ _ _ _ _ _ _ _ _ _ _ _ _ _ _ _ _));(focus (first|exact rfl|(simp;done)));(focus (exact DLes.au));exact rfl;(all_goals (exact pre)))|((apply giveso_go (give8_sem _ _ _ _ _ _ _ _ _ _ _ _));(focus (first|exact rfl|(simp;done)));(focus (exact DLes.au));exact rfl;(all_goals (exact pre))))))|(first|apply dG|apply kB);kernel_rfl|apply rR|apply rE|apply rH| (apply cD<;>intro hb<;>(try simp only[SPLT]at hb)<;>try exact noB))
    all_goals try exact false
    refine ⟨k+1,by omega,by omega,?_⟩
    rw [e1]
    exact finF
theorem times_le {l:List Arr} (h:∀ a ∈ l,0≤a.time∧a.time≤1000000000000000) (i:Int):tmAt l i≤1000000000000000:=by
 unfold tmAt
 split
 ·rename_i a ha
  exact (h a (gMem ha)).2
 ·omega
theorem runN_late {s:Ser} {hold:Int} {l:List Arr} (hF:Fine s hold l):runN s hold l 1152921504606846976=runN s hold l 3000000000000000∧upto 1152921504606846976 l=l.length:=by
 have u1:upto 1152921504606846976 l=l.length:=upto_all fun a ha=>by have:=hF.time a ha;omega
 have u2:upto 3000000000000000 l=l.length:=upto_all fun a ha=>by have:=hF.time a ha;omega
 refine ⟨?_,u1⟩
 unfold runN
 rw [u1,u2]
 have hh:=hF.hold
 exact giveF_time (fun i=>by have:=times_le hF.time i;omega) (fun i=>by have:=times_le hF.time i;omega) _ _
theorem intake8_sem (s:Ser) (hold:Int) (l:List Arr) (hd:∀ a ∈ l,a.dig.length≤9223372036854775807) (hl:l.length≤9223372036854775807):Sem Tryd.prog 10 [s.d,.int .i64 hold,.sl 0 3 (l.map Arr.row)] (.tup [.sl 0 2 ((intakeL s hold l).map Vd.row),.int .i64 (askErr s hold l)]):=by
 have c1:=askIntake8_sem s hold l hd hl
 unfold intakeL
 by_cases he:askErr s hold l=0
 ·have hF:=fine_of he
  have c:=run8_sem s hold l 1152921504606846976 hF
  obtain ⟨q1,q2⟩:=runN_late hF
  rw [q1,q2,Nat.sub_self] at c
  have e:(runN s hold l 3000000000000000).ext (zeros 0)=runN s hold l 3000000000000000:=ext_nil _
  rw [e] at c
  rw [if_neg (by omega),he]
  rw [he] at c1
  generalize runN s hold l 3000000000000000=x at c ⊢
  unfold IS.rfroz at c
  refine si [1000028,1000035,1000036,1000039,1000040,1000043,1000044,1000046,1000050,1000051,1000063] Tryd.func10 ?_
  repeat'((conv=>whnf);first|(try(first|apply eN|apply eI|apply eC);conv=>whnf);apply sD;(focus first|exact gx c1|exact gx c|(refine gx (askIntake8_sem ?_ ?_ ?_ ?_ ?_)<;>exact pre)|(refine gx (run8_sem ?_ ?_ ?_ ?_ ?_)<;>exact pre)|exact side)|apply rR|apply rE|apply rH| (apply cD<;>intro hb<;>(try simp only[SPLT]at hb)<;>try exact noB))
  all_goals try exact false
  exact finR
 ·rw [if_pos he]
  generalize askErr s hold l=e at c1 he ⊢
  refine si [1000028,1000035,1000036,1000039,1000040,1000043,1000044,1000046,1000050,1000051,1000063] Tryd.func10 ?_
  repeat'((conv=>whnf);first|(try(first|apply eN|apply eI|apply eC);conv=>whnf);apply sD;(focus first|exact gx c1|(refine gx (askIntake8_sem ?_ ?_ ?_ ?_ ?_)<;>exact pre)|(refine gx (run8_sem ?_ ?_ ?_ ?_ ?_)<;>exact pre)|exact side)|apply rR|apply rE|apply rH| (apply cD<;>intro hb<;>(try simp only[SPLT]at hb)<;>try exact noB))
  all_goals try exact false
  exact finR
end Go.Proofs.YtalejlbiccdfjaaDoor
