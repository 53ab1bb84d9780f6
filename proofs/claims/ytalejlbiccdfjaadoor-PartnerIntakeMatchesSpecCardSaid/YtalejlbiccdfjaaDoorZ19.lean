/- Arrivals: Passed and Waiting (walks). The laws of Intake, Passed and Waiting (walks). -/
import Derived.Test.YtalejlbiccdfjaaDoorZ17
import Derived.Test.YtalejlbiccdfjaaDoorZ18
namespace Go.Proofs.YtalejlbiccdfjaaDoor
set_option linter.unusedSimpArgs false
set_option linter.unusedVariables false
open Go.RowKit
set_option maxRecDepth 100000
set_option maxHeartbeats 4000000
theorem passed8_sem (s:Ser) (hold:Int) (l:List Arr) (time:Int) (hd:∀ a ∈ l,a.dig.length≤9223372036854775807) (hl:l.length≤9223372036854775807):Sem Tryd.prog 14 [s.d,.int .i64 hold,.sl 0 3 (l.map Arr.row),.int .i64 time] (.tup [.sl 0 1 (numRows (passedL s hold l time)),.int .i64 (passedE s hold l time)]):=by
 have c1:=askIntake8_sem s hold l hd hl
 have o:Sem Tryd.prog 25 [.int .i64 time,.int .i64 0,.int .i64 2000000000000000] (.bool (!outB time 0 2000000000000000)):=within8_sem time 0 2000000000000000
 unfold passedL passedE
 by_cases he:askErr s hold l=0
 ·have hF:=fine_of he
  rw [he] at c1
  rw [he,if_neg (c:=(0:Int) ≠ 0) (by omega)]
  cases hb0:outB time 0 2000000000000000 with
  |true=>
   rw [hb0] at o
   rw [if_pos rfl,if_pos (by decide)]
   refine si [13,2000013,1000028,1000035,1000036,1000039,1000040,1000043,1000044,1000046,1000050,1000051,1000063] Tryd.func14 ?_
   repeat'((conv=>whnf);first|(try(first|apply eN|apply eI|apply eC);conv=>whnf);apply sD;(focus first|exact gx c1|exact gx o|(refine gx (askIntake8_sem ?_ ?_ ?_ ?_ ?_)<;>exact pre)|(refine gx (within8_sem ?_ ?_ ?_)<;>exact pre)|(refine gx (run8_sem ?_ ?_ ?_ ?_ ?_)<;>exact pre)|exact side)|apply rR|apply rE|apply rH| (apply cD<;>intro hb<;>(try simp only[SPLT]at hb)<;>try exact noB))
   all_goals try exact false
   exact finR
  |false=>
   rw [hb0] at o
   rw [if_neg (c:=false=true) (by decide),if_neg (by decide)]
   have c:=run8_sem s hold l time hF
   have hz:=sizeN_bd s hF.ser
   have hfew:=(runN_ok (s:=s) (hold:=hold) (l:=l) (by omega) hz.2 time).few
   have hu:=upto_le time l
   have hl2:=hF.few
   have hpx:((runN s hold l time).ext (zeros (l.length - upto time l))).passed=(runN s hold l time).passed:=rfl
   rw [← hpx] at hfew ⊢
   generalize (runN s hold l time).ext (zeros (l.length - upto time l))=x at c hfew ⊢
   have hpl:(x.passed.map Sn.row).length=x.passed.length:=List.length_map _
   unfold IS.rfroz at c
   refine si [13,2000013,1000028,1000035,1000036,1000039,1000040,1000043,1000044,1000046,1000050,1000051,1000063] Tryd.func14 ?_
   repeat'((conv=>whnf);first|(try(first|apply eN|apply eI|apply eC);conv=>whnf);apply sD;(focus first|exact gx c1|exact gx o|exact gx c|(refine gx (askIntake8_sem ?_ ?_ ?_ ?_ ?_)<;>exact pre)|(refine gx (within8_sem ?_ ?_ ?_)<;>exact pre)|(refine gx (run8_sem ?_ ?_ ?_ ?_ ?_)<;>exact pre)|exact side)|apply rR|apply rE|apply rH| (apply cD<;>intro hb<;>(try simp only[SPLT]at hb)<;>try exact noB))
   all_goals try exact false
   refine loop_go (M:=fun t=>mem t [13,2000013,1000028,1000035,1000036,1000039,1000040,1000043,1000044,1000046,1000050,1000051,1000063]) hT hM (fun k:Nat => [(33,.int .i64 k),(11,.sl 2 1 (numRows (numsOf (x.passed.take k))))]) (fun k=>k≤x.passed.length) (fun k=>x.passed.length - k) (0) ?_ ?_ ?_
   ·exact finF
   ·omega
   ·intro k hk
    have hnl:(numRows (numsOf (x.passed.take k))).length=k:=by unfold numRows numsOf;simp;omega
    rcases hx:x.passed[k]? with _|y
    ·have hke:k=x.passed.length:=by have:=List.getElem?_eq_none_iff.1 hx;omega
     subst hke
     rw [List.take_length]
     repeat'((conv=>whnf);first|(try(first|apply eN|apply eI|apply eC);conv=>whnf);apply sD;(focus first|(refine gx (askIntake8_sem ?_ ?_ ?_ ?_ ?_)<;>exact pre)|(refine gx (within8_sem ?_ ?_ ?_)<;>exact pre)|(refine gx (run8_sem ?_ ?_ ?_ ?_ ?_)<;>exact pre)|exact side)|apply rR|apply rE|apply rH| (apply cD<;>intro hb<;>(try simp only[SPLT]at hb)<;>try exact noB))
     all_goals try exact false
     exact finR
    ·have hlt:=(gLt hx)
     have hs:numRows (numsOf (x.passed.take (k+1)))=numRows (numsOf (x.passed.take k)) ++ [[.int .i64 y.num]]:=by
      rw [take_at hx]
      unfold numRows numsOf
      simp
     repeat'((conv=>whnf);first|(try(first|apply eN|apply eI|apply eC);conv=>whnf);apply sD;(focus first|(exact idx_eq (f:=Sn.row) hx rfl)|(refine gx (askIntake8_sem ?_ ?_ ?_ ?_ ?_)<;>exact pre)|(refine gx (within8_sem ?_ ?_ ?_)<;>exact pre)|(refine gx (run8_sem ?_ ?_ ?_ ?_ ?_)<;>exact pre)|exact side)|apply rR|apply rE|apply rH| (apply cD<;>intro hb<;>(try simp only[SPLT]at hb)<;>try exact noB))
     all_goals try exact false
     refine ⟨k+1,by omega,by omega,?_⟩
     rw [hs]
     exact finF
 ·rw [if_pos he,if_pos he]
  generalize askErr s hold l=e at c1 he ⊢
  refine si [13,2000013,1000028,1000035,1000036,1000039,1000040,1000043,1000044,1000046,1000050,1000051,1000063] Tryd.func14 ?_
  repeat'((conv=>whnf);first|(try(first|apply eN|apply eI|apply eC);conv=>whnf);apply sD;(focus first|exact gx c1|(refine gx (askIntake8_sem ?_ ?_ ?_ ?_ ?_)<;>exact pre)|(refine gx (within8_sem ?_ ?_ ?_)<;>exact pre)|(refine gx (run8_sem ?_ ?_ ?_ ?_ ?_)<;>exact pre)|exact side)|apply rR|apply rE|apply rH| (apply cD<;>intro hb<;>(try simp only[SPLT]at hb)<;>try exact noB))
  all_goals try exact false
  exact finR
def waitL (s:Ser) (hold:Int) (l:List Arr) (time:Int):List Gp:=if passedE s hold l time ≠ 0 then [] else if (runN s hold l time).held = [] then [] else rowsL s (s.first+(runN s hold l time).e % sizeN s) (lowS (runN s hold l time).held - (runN s hold l time).e)
theorem lowest_frz (s:Ser) (hold:Int) (l:List Arr) (t:IS):Sem Tryd.prog 28 [.ptr (t.froz s hold l)] (.int .i64 (lowS t.held)):=by
 refine ⟨inferInstance,rfl,fun S w vs hw hvl hr => ?_⟩
 obtain ⟨v,rfl⟩:∃ v,vs = [v]:=by
  match vs,hvl with
  |[v],_=>exact ⟨v,rfl⟩
 have h0:=hr 0 _ v rfl rfl
 cases h0 with
 |fz hf=>cases hf with
  |@ptr b o cs cv hc ih=>
   have h5:=(hc 5 _ rfl).1
   have f5:=ih 5 _ rfl
   generalize cv 5=u at h5 f5
   cases f5 with
   |fmp hb hh he hk=>
    refine (lowest_low t.held w b o _ _ _ h5 hh he.1 he.2).mono fun e w' ⟨he,hext⟩ => ?_
    have hpt:=PT.ext' hw hext
    exact ⟨_,S,he,hpt.wf,hpt.trans,.fz (.int _ _)⟩
theorem runE_of {s:Ser} {hold:Int} {l:List Arr} {time:Int} (h:passedE s hold l time=0):askErr s hold l=0∧outB time 0 2000000000000000=false:=by
 unfold passedE at h
 split at h
 ·omega
 ·split at h
  ·omega
  ·exact ⟨by omega,by simpa using (by assumption:¬ outB time 0 2000000000000000=true)⟩
theorem wait_bd {s:Ser} {hold:Int} {l:List Arr} (hF:Fine s hold l) (time:Int) (hne:(runN s hold l time).held ≠ []):0≤(runN s hold l time).e∧(runN s hold l time).e≤lowS (runN s hold l time).held∧lowS (runN s hold l time).held≤4000000000000000000∧lowS (runN s hold l time).held - (runN s hold l time).e≤sizeN s∧(runN s hold l time).held.length≤1000:=by
 have hz:=sizeN_bd s hF.ser
 have hok:=runN_ok (s:=s) (hold:=hold) (l:=l) (by omega) hz.2 time
 have hnr:=runN_near (s:=s) (hold:=hold) (l:=l) (by omega) hz.2 time
 have hu:=upto_le time l
 have hl:=hF.few
 obtain ⟨⟨y,hy,hy2⟩,_⟩:=lowS_mem hne
 have h1:=hok.gt y hy
 have h2:=hok.le y hy
 have h3:=hnr y hy
 have h4:=hok.few
 have h5:=hok.lo
 omega
theorem waiting8_sem (s:Ser) (hold:Int) (l:List Arr) (time:Int) (hd:∀ a ∈ l,a.dig.length≤9223372036854775807) (hl:l.length≤9223372036854775807):Sem Tryd.prog 16 [s.d,.int .i64 hold,.sl 0 3 (l.map Arr.row),.int .i64 time] (.tup [.sl 0 2 ((waitL s hold l time).map Gp.row),.int .i64 (passedE s hold l time)]):=by
 have c1:=askIntake8_sem s hold l hd hl
 have o:Sem Tryd.prog 25 [.int .i64 time,.int .i64 0,.int .i64 2000000000000000] (.bool (!outB time 0 2000000000000000)):=within8_sem time 0 2000000000000000
 unfold waitL
 by_cases hp:passedE s hold l time=0
 ·obtain ⟨he,hb0⟩:=runE_of hp
  have hF:=fine_of he
  rw [he] at c1
  rw [hb0] at o
  rw [if_neg (by omega),hp]
  have c:=run8_sem s hold l time hF
  have c2:=size8_sem s hF.ser
  have hz:=sizeN_bd s hF.ser
  have hss:=series_ok s hF.ser
  have hb:=wait_bd hF time
  have hhx:((runN s hold l time).ext (zeros (l.length - upto time l))).held=(runN s hold l time).held:=rfl
  have hex:((runN s hold l time).ext (zeros (l.length - upto time l))).e=(runN s hold l time).e:=rfl
  rw [← hhx,← hex] at hb ⊢
  generalize (runN s hold l time).ext (zeros (l.length - upto time l))=x at c hb ⊢
  obtain ⟨e,held,passed,out⟩:=x
  dsimp only at hb ⊢
  cases held with
  |nil=>
   rw [if_pos rfl]
   unfold IS.rfroz at c
   refine si [1000028,1000035,1000036,1000039,1000040,1000043,1000044,1000046,1000050,1000051,1000063] Tryd.func16 ?_
   repeat'((conv=>whnf);first|(try(first|apply eN|apply eI|apply eC);conv=>whnf);apply sD;(focus first|exact gx c1|exact gx o|exact gx c|(refine gx (askIntake8_sem ?_ ?_ ?_ ?_ ?_)<;>exact pre)|(refine gx (within8_sem ?_ ?_ ?_)<;>exact pre)|(refine gx (run8_sem ?_ ?_ ?_ ?_ ?_)<;>exact pre)|(refine gx (size8_sem ?_ ?_)<;>exact pre)|(refine gx (lowest8_sem ?_ ?_ ?_ ?_ ?_ ?_ ?_ ?_ ?_ ?_)<;>exact pre)|exact side)|(first|apply dG|apply kB);kernel_rfl|apply rR|apply rE|apply rH| (apply cD<;>intro hb<;>(try simp only[SPLT]at hb)<;>try exact noB))
   all_goals try exact false
   exact finR
  |cons y r=>
   obtain ⟨b1,b2,b3,b4,b5⟩:=hb (by simp)
   rw [if_neg (by simp)]
   have cl:=lowest8_sem s hold l e y r (out.map Vd.row) (passed.map Sn.row) (by omega)
   have hm0:=Int.emod_nonneg e (show sizeN s ≠ 0 by omega)
   have hm1:=Int.emod_lt_of_pos e (show 0 < sizeN s by omega)
   have hsz:sizeN s=s.last - s.first+1:=rfl
   have cr:=rows8_sem s hF.ser _ (s.first+e % sizeN s) (lowS (y::r) - e) (Nat.le_refl _) (by omega) (by omega) (by omega) (by omega)
   have hml:((y::r).map Sn.row).length=(y::r).length:=List.length_map _
   have hqp:0 < (y::r).length:=by simp
   unfold IS.rfroz at c
   dsimp only at c
   generalize rowsL s (s.first+e % sizeN s) (lowS (y::r) - e)=g at cr ⊢
   generalize lowS (y::r)=lo at *
   generalize y::r=L at *
   generalize sizeN s=z at *
   refine si [1000028,1000035,1000036,1000039,1000040,1000043,1000044,1000046,1000050,1000051,1000063] Tryd.func16 ?_
   repeat'((conv=>whnf);first|(try(first|apply eN|apply eI|apply eC);conv=>whnf);apply sD;(focus first|exact gx c1|exact gx o|exact gx c|exact gx c2|exact gx cl|exact gx cr|(refine gx (askIntake8_sem ?_ ?_ ?_ ?_ ?_)<;>exact pre)|(refine gx (within8_sem ?_ ?_ ?_)<;>exact pre)|(refine gx (run8_sem ?_ ?_ ?_ ?_ ?_)<;>exact pre)|(refine gx (size8_sem ?_ ?_)<;>exact pre)|(refine gx (lowest8_sem ?_ ?_ ?_ ?_ ?_ ?_ ?_ ?_ ?_ ?_)<;>exact pre)|exact side)|(first|apply dG|apply kB);kernel_rfl|apply rR|apply rE|apply rH| (apply cD<;>intro hb<;>(try simp only[SPLT]at hb)<;>try exact noB))
   all_goals try exact false
   exact finR
 ·rw [if_pos hp]
  unfold passedE at hp ⊢
  by_cases he:askErr s hold l=0
  ·rw [he,if_neg (c:=(0:Int) ≠ 0) (by omega)] at hp ⊢
   rw [he] at c1
   cases hb0:outB time 0 2000000000000000 with
   |true=>
    rw [hb0] at o
    rw [if_pos rfl]
    refine si [1000028,1000035,1000036,1000039,1000040,1000043,1000044,1000046,1000050,1000051,1000063] Tryd.func16 ?_
    repeat'((conv=>whnf);first|(try(first|apply eN|apply eI|apply eC);conv=>whnf);apply sD;(focus first|exact gx c1|exact gx o|(refine gx (askIntake8_sem ?_ ?_ ?_ ?_ ?_)<;>exact pre)|(refine gx (within8_sem ?_ ?_ ?_)<;>exact pre)|(refine gx (run8_sem ?_ ?_ ?_ ?_ ?_)<;>exact pre)|(refine gx (size8_sem ?_ ?_)<;>exact pre)|(refine gx (lowest8_sem ?_ ?_ ?_ ?_ ?_ ?_ ?_ ?_ ?_ ?_)<;>exact pre)|exact side)|(first|apply dG|apply kB);kernel_rfl|apply rR|apply rE|apply rH| (apply cD<;>intro hb<;>(try simp only[SPLT]at hb)<;>try exact noB))
    all_goals try exact false
    exact finR
   |false=>rw [hb0] at hp;exact absurd rfl hp
  ·rw [if_pos he]
   generalize askErr s hold l=e at c1 he ⊢
   refine si [1000028,1000035,1000036,1000039,1000040,1000043,1000044,1000046,1000050,1000051,1000063] Tryd.func16 ?_
   repeat'((conv=>whnf);first|(try(first|apply eN|apply eI|apply eC);conv=>whnf);apply sD;(focus first|exact gx c1|(refine gx (askIntake8_sem ?_ ?_ ?_ ?_ ?_)<;>exact pre)|(refine gx (within8_sem ?_ ?_ ?_)<;>exact pre)|(refine gx (run8_sem ?_ ?_ ?_ ?_ ?_)<;>exact pre)|(refine gx (size8_sem ?_ ?_)<;>exact pre)|(refine gx (lowest8_sem ?_ ?_ ?_ ?_ ?_ ?_ ?_ ?_ ?_ ?_)<;>exact pre)|exact side)|(first|apply dG|apply kB);kernel_rfl|apply rR|apply rE|apply rH| (apply cD<;>intro hb<;>(try simp only[SPLT]at hb)<;>try exact noB))
   all_goals try exact false
   exact finR
theorem waiting_sem (s:Ser) (hold:Int) (l:List Arr) (time:Int) (hd:∀ a ∈ l,a.dig.length≤9223372036854775807) (hl:l.length≤9223372036854775807):Sem Tryd.prog 15 [s.d,.int .i64 hold,.sl 0 3 (l.map Arr.row),.int .i64 time] (.tup [.sl 0 2 ((waitL s hold l time).map Gp.row),.int .i64 (passedE s hold l time)]):=by
 have c:=at_sem s hold l time hd hl
 unfold atD at c
 unfold waitL
 by_cases hp:passedE s hold l time=0
 ·obtain ⟨he,hb0⟩:=runE_of hp
  have hF:=fine_of he
  rw [if_neg (by omega)] at c
  rw [if_neg (by omega),hp]
  have hz:=sizeN_bd s hF.ser
  have hss:=series_ok s hF.ser
  have hb:=wait_bd hF time
  have hhx:((runN s hold l time).ext (skip (l.length - upto time l))).held=(runN s hold l time).held:=rfl
  have hex:((runN s hold l time).ext (skip (l.length - upto time l))).e=(runN s hold l time).e:=rfl
  rw [← hhx,← hex] at hb ⊢
  generalize (runN s hold l time).ext (skip (l.length - upto time l))=x at c hb ⊢
  have cl:=lowest_frz s hold l x
  have hpl:(plV x.held).length=x.held.length:=List.length_map _
  by_cases hne:x.held = []
  ·rw [if_pos hne]
   have hl0:x.held.length=0:=by rw [hne];rfl
   unfold IS.froz at c
   refine si [1000028,1000035,1000036,1000039,1000040,1000043,1000044,1000046,1000050,1000051,1000063] Tryd.func15 ?_
   repeat'((conv=>whnf);first|(try(first|apply eN|apply eI|apply eC);conv=>whnf);apply sD;(focus first|exact gx c|(refine gx (at_sem ?_ ?_ ?_ ?_ ?_ ?_)<;>exact pre)|(refine gx (lowest_frz ?_ ?_ ?_ ?_)<;>exact pre)|(refine gx (rows_sem ?_ ?_ ?_ ?_ ?_ ?_ ?_ ?_)<;>exact pre)|exact side)|((with_reducible apply CallO.go);(conv=>whnf);(with_reducible apply sD);(focus (first|((apply giveso_go (lowestO_sem _ _ _ _));(focus (first|exact rfl|(simp;done)));(focus (exact DLes.au));exact rfl;(all_goals (exact pre))))))|(first|apply dG|apply kB);kernel_rfl|apply rR|apply rE|apply rH| (apply cD<;>intro hb<;>(try simp only[SPLT]at hb)<;>try exact noB))
   all_goals try exact false
   exact finR
  ·obtain ⟨b1,b2,b3,b4,b5⟩:=hb hne
   rw [if_neg hne]
   have hm0:=Int.emod_nonneg x.e (show sizeN s ≠ 0 by omega)
   have hm1:=Int.emod_lt_of_pos x.e (show 0 < sizeN s by omega)
   have hsz:sizeN s=s.last - s.first+1:=rfl
   have hlr:=rowsL_len s (by omega) (s.first+x.e % sizeN s) (lowS x.held - x.e) ⟨by omega,by omega⟩ b4
   have cr:=rows_sem s x.e (lowS x.held) hF.ser b1 b2 b3 (by omega)
   have hlen:0 < x.held.length:=List.length_pos_iff.2 hne
   unfold IS.froz at c cl
   generalize rowsL s (s.first+x.e % sizeN s) (lowS x.held - x.e)=g at cr ⊢
   generalize lowS x.held=lo at *
   refine si [1000028,1000035,1000036,1000039,1000040,1000043,1000044,1000046,1000050,1000051,1000063] Tryd.func15 ?_
   repeat'((conv=>whnf);first|(try(first|apply eN|apply eI|apply eC);conv=>whnf);apply sD;(focus first|exact gx c|exact gx cl|exact gx cr|(refine gx (at_sem ?_ ?_ ?_ ?_ ?_ ?_)<;>exact pre)|(refine gx (lowest_frz ?_ ?_ ?_ ?_)<;>exact pre)|(refine gx (rows_sem ?_ ?_ ?_ ?_ ?_ ?_ ?_ ?_)<;>exact pre)|exact side)|((with_reducible apply CallO.go);(conv=>whnf);(with_reducible apply sD);(focus (first|((apply giveso_go (lowestO_sem _ _ _ _));(focus (first|exact rfl|(simp;done)));(focus (exact DLes.au));exact rfl;(all_goals (exact pre))))))|(first|apply dG|apply kB);kernel_rfl|apply rR|apply rE|apply rH| (apply cD<;>intro hb<;>(try simp only[SPLT]at hb)<;>try exact noB))
   all_goals try exact false
   exact finR
 ·rw [if_pos hp] at c ⊢
  generalize passedE s hold l time=e at c hp ⊢
  refine si [1000028,1000035,1000036,1000039,1000040,1000043,1000044,1000046,1000050,1000051,1000063] Tryd.func15 ?_
  repeat'((conv=>whnf);first|(try(first|apply eN|apply eI|apply eC);conv=>whnf);apply sD;(focus first|exact gx c|(refine gx (at_sem ?_ ?_ ?_ ?_ ?_ ?_)<;>exact pre)|(refine gx (lowest_frz ?_ ?_ ?_ ?_)<;>exact pre)|(refine gx (rows_sem ?_ ?_ ?_ ?_ ?_ ?_ ?_ ?_)<;>exact pre)|exact side)|((with_reducible apply CallO.go);(conv=>whnf);(with_reducible apply sD);(focus (first|((apply giveso_go (lowestO_sem _ _ _ _));(focus (first|exact rfl|(simp;done)));(focus (exact DLes.au));exact rfl;(all_goals (exact pre))))))|(first|apply dG|apply kB);kernel_rfl|apply rR|apply rE|apply rH| (apply cD<;>intro hb<;>(try simp only[SPLT]at hb)<;>try exact noB))
  all_goals try exact false
  exact finR
theorem equalV (x:List Vd) (hx:x.length≤1000000):Sem Tryd.prog 13 [.sl 0 2 (x.map Vd.row),.sl 0 2 (x.map Vd.row)] (.bool true):=by
 have hxl:(x.map Vd.row).length=x.length:=List.length_map _
 refine si [1000028,1000035,1000036,1000039,1000040,1000043,1000044,1000046,1000050,1000051,1000063] Tryd.func13 ?_
 repeat'((conv=>whnf);first|(try(first|apply eN|apply eI|apply eC);conv=>whnf);apply sD;(focus first|exact side)|(first|apply dG|apply kB);kernel_rfl|apply rR|apply rE|apply rH| (apply cD<;>intro hb<;>(try simp only[SPLT]at hb)<;>try exact noB))
 all_goals try exact false
 ·refine loop_go (M:=fun t=>mem t [1000028,1000035,1000036,1000039,1000040,1000043,1000044,1000046,1000050,1000051,1000063]) hT hM (fun k:Nat => [(13,.int .i64 k)]) (fun k=>k≤x.length) (fun k=>x.length - k) (0) ?_ ?_ ?_
  ·exact finF
  ·exact Nat.zero_le _
  ·intro k hk
   rcases hxk:x[k]? with _|n
   ·have hk':k=x.length:=by have:=List.getElem?_eq_none_iff.1 hxk;omega
    subst hk'
    repeat'((conv=>whnf);first|(try(first|apply eN|apply eI|apply eC);conv=>whnf);apply sD;(focus first|exact side)|(first|apply dG|apply kB);kernel_rfl|apply rR|apply rE|apply rH| (apply cD<;>intro hb<;>(try simp only[SPLT]at hb)<;>try exact noB))
    all_goals try exact false
    exact finR
   ·have hlt:=(gLt hxk)
    repeat'((conv=>whnf);first|(try(first|apply eN|apply eI|apply eC);conv=>whnf);apply sD;(focus first|(exact idx_eq (f:=Vd.row) hxk rfl)|exact side)|(first|apply dG|apply kB);kernel_rfl|apply rR|apply rE|apply rH| (apply cD<;>intro hb<;>(try simp only[SPLT]at hb)<;>try exact noB))
    all_goals try exact false
    ·refine ⟨k+1,by omega,by omega,?_⟩
     exact finF
theorem equalG (x:List Gp) (hx:x.length≤1000000):Sem Tryd.prog 17 [.sl 0 2 (x.map Gp.row),.sl 0 2 (x.map Gp.row)] (.bool true):=by
 have hxl:(x.map Gp.row).length=x.length:=List.length_map _
 refine si [1000028,1000035,1000036,1000039,1000040,1000043,1000044,1000046,1000050,1000051,1000063] Tryd.func17 ?_
 repeat'((conv=>whnf);first|(try(first|apply eN|apply eI|apply eC);conv=>whnf);apply sD;(focus first|exact side)|(first|apply dG|apply kB);kernel_rfl|apply rR|apply rE|apply rH| (apply cD<;>intro hb<;>(try simp only[SPLT]at hb)<;>try exact noB))
 all_goals try exact false
 ·refine loop_go (M:=fun t=>mem t [1000028,1000035,1000036,1000039,1000040,1000043,1000044,1000046,1000050,1000051,1000063]) hT hM (fun k:Nat => [(13,.int .i64 k)]) (fun k=>k≤x.length) (fun k=>x.length - k) (0) ?_ ?_ ?_
  ·exact finF
  ·exact Nat.zero_le _
  ·intro k hk
   rcases hxk:x[k]? with _|n
   ·have hk':k=x.length:=by have:=List.getElem?_eq_none_iff.1 hxk;omega
    subst hk'
    repeat'((conv=>whnf);first|(try(first|apply eN|apply eI|apply eC);conv=>whnf);apply sD;(focus first|exact side)|(first|apply dG|apply kB);kernel_rfl|apply rR|apply rE|apply rH| (apply cD<;>intro hb<;>(try simp only[SPLT]at hb)<;>try exact noB))
    all_goals try exact false
    exact finR
   ·have hlt:=(gLt hxk)
    repeat'((conv=>whnf);first|(try(first|apply eN|apply eI|apply eC);conv=>whnf);apply sD;(focus first|(exact idx_eq (f:=Gp.row) hxk rfl)|exact side)|(first|apply dG|apply kB);kernel_rfl|apply rR|apply rE|apply rH| (apply cD<;>intro hb<;>(try simp only[SPLT]at hb)<;>try exact noB))
    all_goals try exact false
    ·refine ⟨k+1,by omega,by omega,?_⟩
     exact finF
theorem law7_sem (s:Ser) (hold:Int) (l:List Arr) (hd:∀ a ∈ l,a.dig.length≤9223372036854775807) (hl:l.length≤9223372036854775807):Sem Tryd.prog 4 [s.d,.int .i64 hold,.sl 0 3 (l.map Arr.row)] (.bool true):=by
 have c1:=intake_sem s hold l hd hl
 have c2:=intake8_sem s hold l hd hl
 have c3:=checkArrivals_sem l hd hl
 have c4:=checkArrivals8_sem l hd hl
 have hv:(intakeL s hold l).length≤1000000:=by
  unfold intakeL
  split
  ·simp
  ·rename_i he
   have hF:=fine_of (s:=s) (hold:=hold) (l:=l) (by omega)
   have hz:=sizeN_bd s hF.ser
   have:=(runN_ok (s:=s) (hold:=hold) (l:=l) (by omega) hz.2 3000000000000000).out
   have hu:=upto_le 3000000000000000 l
   have:=hF.few
   omega
 have c5:=equalV _ hv
 generalize intakeL s hold l=v at *
 generalize askErr s hold l=e at *
 generalize arrErr l=f at *
 refine si [1000028,1000035,1000036,1000039,1000040,1000043,1000044,1000046,1000050,1000051,1000063] Tryd.func4 ?_
 repeat'((conv=>whnf);first|(try(first|apply eN|apply eI|apply eC);conv=>whnf);apply sD;(focus(try intro hc;have hc0:=hc;(try simp only[SPLT]at hc);try refine and0 ?_);first|exact gx c1|exact gx c2|exact gx c3|exact gx c4|exact gx c5|exact gx awake_sem|(refine gx (intake_sem ?_ ?_ ?_ ?_ ?_)<;>exact pre)|(refine gx (intake8_sem ?_ ?_ ?_ ?_ ?_)<;>exact pre)|(refine gx (checkArrivals_sem ?_ ?_ ?_)<;>exact pre)|(refine gx (checkArrivals8_sem ?_ ?_ ?_)<;>exact pre)|(refine gx (equalV ?_ ?_)<;>exact pre)|exact sideG)|apply rR|apply rE|apply rH| (apply cD<;>intro hb<;>(try simp only[SPLT]at hb)<;>try exact noB))
 all_goals try exact false
 repeat' ((conv=>whnf);first|exact endR|with_reducible first|apply And.intro|apply oR|apply oN|apply dC)
 all_goals (conv=>whnf)
 exact rle_bool (by simp)
theorem law9_sem (s:Ser) (hold:Int) (l:List Arr) (time:Int) (hd:∀ a ∈ l,a.dig.length≤9223372036854775807) (hl:l.length≤9223372036854775807):Sem Tryd.prog 5 [s.d,.int .i64 hold,.sl 0 3 (l.map Arr.row),.int .i64 time] (.bool true):=by
 have c1:=passed_sem s hold l time hd hl
 have c2:=passed8_sem s hold l time hd hl
 have c3:=waiting_sem s hold l time hd hl
 have c4:=waiting8_sem s hold l time hd hl
 have hv:(passedL s hold l time).length≤1000000∧(waitL s hold l time).length≤1000000:=by
  by_cases hp:passedE s hold l time=0
  ·obtain ⟨he,_⟩:=runE_of hp
   have hF:=fine_of he
   have hz:=sizeN_bd s hF.ser
   have hss:=series_ok s hF.ser
   have h1:=(runN_ok (s:=s) (hold:=hold) (l:=l) (by omega) hz.2 time).few
   have hu:=upto_le time l
   have:=hF.few
   refine ⟨?_,?_⟩
   ·unfold passedL numsOf
    rw [if_neg (by omega),List.length_map]
    omega
   ·unfold waitL
    rw [if_neg (by omega)]
    split
    ·simp
    ·rename_i hne
     obtain ⟨b1,b2,b3,b4,b5⟩:=wait_bd hF time hne
     have hm0:=Int.emod_nonneg (runN s hold l time).e (show sizeN s ≠ 0 by omega)
     have hm1:=Int.emod_lt_of_pos (runN s hold l time).e (show 0 < sizeN s by omega)
     have hsz:sizeN s=s.last - s.first+1:=rfl
     have:=rowsL_len s (by omega) (s.first+(runN s hold l time).e % sizeN s) (lowS (runN s hold l time).held - (runN s hold l time).e) ⟨by omega,by omega⟩ b4
     omega
  ·unfold passedL waitL
   rw [if_pos hp,if_pos hp]
   simp
 have c5:=equalI_sem (passedL s hold l time) (passedL s hold l time) hv.1 hv.1
 rw [beq_self_eq_true] at c5
 have c6:=equalG _ hv.2
 generalize passedL s hold l time=v at *
 generalize waitL s hold l time=u at *
 generalize passedE s hold l time=e at *
 refine si [1000028,1000035,1000036,1000039,1000040,1000043,1000044,1000046,1000050,1000051,1000063] Tryd.func5 ?_
 repeat'((conv=>whnf);first|(try(first|apply eN|apply eI|apply eC);conv=>whnf);apply sD;(focus(try intro hc;have hc0:=hc;(try simp only[SPLT]at hc);try refine and0 ?_);first|exact gx c1|exact gx c2|exact gx c3|exact gx c4|exact gx c5|exact gx c6|exact gx awake_sem|(refine gx (passed_sem ?_ ?_ ?_ ?_ ?_ ?_)<;>exact pre)|(refine gx (passed8_sem ?_ ?_ ?_ ?_ ?_ ?_)<;>exact pre)|(refine gx (equalI_sem ?_ ?_ ?_ ?_)<;>exact pre)|(refine gx (waiting_sem ?_ ?_ ?_ ?_ ?_ ?_)<;>exact pre)|(refine gx (waiting8_sem ?_ ?_ ?_ ?_ ?_ ?_)<;>exact pre)|(refine gx (equalG ?_ ?_)<;>exact pre)|exact sideG)|apply rR|apply rE|apply rH| (apply cD<;>intro hb<;>(try simp only[SPLT]at hb)<;>try exact noB))
 all_goals try exact false
 repeat' ((conv=>whnf);first|exact endR|with_reducible first|apply And.intro|apply oR|apply oN|apply dC)
 all_goals (conv=>whnf)
 exact rle_bool (by simp)
end Go.Proofs.YtalejlbiccdfjaaDoor
