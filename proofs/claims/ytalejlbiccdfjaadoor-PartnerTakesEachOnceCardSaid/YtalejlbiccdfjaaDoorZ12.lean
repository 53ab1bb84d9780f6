/- Arrivals: what is asked of them (walk of the program). Arrivals: the program follows them up to a time. Arrivals: Intake, Passed (walks of the program). Each arrival is passed on once: the law's walk. -/
import Derived.Test.YtalejlbiccdfjaaDoorZ10
import Derived.Test.YtalejlbiccdfjaaDoorZ11
namespace Go.Proofs.YtalejlbiccdfjaaDoor
set_option linter.unusedSimpArgs false
set_option linter.unusedVariables false
open Go.RowKit
set_option maxRecDepth 100000
set_option maxHeartbeats 4000000
theorem sem_vals {P:Program} {f:Nat} [e:Enters P f] {ds:List D} {us:List Value} {d:D} {v:Value} (hv:valsOf ds=some us) (hc:d.calm=true) (hz:∀ lim w,Fz lim w v d) (h:∀ w,Calls P f us.toArray w fun e w'=>e=.returned v∧Ext w w'):Sem P f ds d:=
 ⟨e,hc,fun S w vs hw hl hr=>by
  obtain rfl:=vals_eq (q:=fun i=>.slot i) hv hl hr
  exact (h w).mono fun e w' ⟨he,hx⟩=>⟨v,S,he,(PT.ext' hw hx).wf,(PT.ext' hw hx).trans,.fz (hz _ _)⟩⟩
theorem dropWhile_nil {α:Type} (p:α→Bool) (l:List α):l.dropWhile p = []↔l.all p=true:=by
 induction l with
 |nil=>simp
 |cons a l ih=>simp only [List.dropWhile_cons,List.all_cons];split<;>simp_all
theorem trimS_nil_iff (l cs:List UInt8):Lib.trimS l cs = []↔l.all (cs.contains ·)=true:=by
 unfold Lib.trimS Lib.trimLeftS
 rw [dropWhile_nil]
 constructor
 ·intro h
  unfold Lib.trimRightS at h
  rw [List.all_reverse] at h
  have key:∀ m:List UInt8,(m.dropWhile (cs.contains ·)).all (cs.contains ·)=true→m.all (cs.contains ·)=true:=by
   intro m
   induction m with
   |nil=>simp
   |cons a m ih=>
    intro h
    simp only [List.dropWhile_cons] at h
    split at h
    ·rename_i ha
     rw [List.all_cons,ha,ih h]
     rfl
    ·exact h
  have:=key l.reverse h
  rwa [List.all_reverse] at this
 ·intro h
  unfold Lib.trimRightS
  rw [(dropWhile_nil _ _).2 (by rw [List.all_reverse];exact h)]
  rfl
theorem trim_sem (s cs:Str) (hs:s.length≤9223372036854775807) (hcs:cs.length < 4294967281) (ha:cs.all (fun b=>decide (b.toNat < 128))=true):Sem Tryd.prog 41 [.str s,.str cs] (.str (Lib.trimS s cs)):=
 sem_vals (us := [.string ⟨s.toArray⟩,.string ⟨cs.toArray⟩]) (v:=.string ⟨(Lib.trimS s cs).toArray⟩) rfl rfl (fun _ _=>.str _) fun w=>
  Any.strings_Trim_laid Tryd.lays160 (by kernel_rfl) ⟨s.toArray⟩ ⟨cs.toArray⟩ w (by show s.toArray.size≤_;simp;omega) (by show cs.toArray.size < _;simpa using hcs) (ascii_of_all (by simpa using ha))
def hexTxt:Str := [48,49,50,51,52,53,54,55,56,57,97,98,99,100,101,102]
theorem hexTxt_contains (c:UInt8):hexTxt.contains c=hexByte c:=by
 have:∀ n:Fin 256,hexTxt.contains (UInt8.ofNat n.val)=hexByte (UInt8.ofNat n.val):=by decide +kernel
 have h:=this ⟨c.toNat,c.toNat_lt⟩
 simpa using h
theorem trim_hex (s:Str):(Lib.trimS s hexTxt == [])=s.all hexByte:=by
 have h1:=trimS_nil_iff s hexTxt
 have h2:s.all (hexTxt.contains ·)=s.all hexByte:=by
  congr 1
  exact funext hexTxt_contains
 rw [h2] at h1
 rw [Bool.eq_iff_iff,beq_iff_eq,h1]
theorem isDigest_sem (s:Str) (hs:s.length≤9223372036854775807):Sem Tryd.prog 24 [.str s] (.bool (isDig s)):=by
 have e:=trim_hex s
 refine si [1000028,1000035,1000036,1000043,1000044,1000046] Tryd.func24 ?_
 repeat'((conv=>whnf);first|(try(first|apply eN|apply eC);conv=>whnf);apply sD;(focus(try intro hc;have hc0:=hc;(try simp only[SPLT]at hc);try refine and0 ?_);first|(refine gx (trim_sem s hexTxt hs (by decide) (by decide))<;>exact pre)|exact sideG)|apply rR|apply rE|apply rH| (apply cD<;>intro hb<;>(try simp only[SPLT]at hb)<;>try exact noB))
 all_goals try exact false
 repeat' ((conv=>whnf);first|exact endR|with_reducible first|apply And.intro|apply oR|apply oN|apply dC)
 all_goals (conv=>whnf)
 refine rle_bool ?_
 unfold isDig
 rw [← e,Bool.eq_iff_iff]
 simp
 omega
theorem isMoment_sem (n:Int):Sem Tryd.prog 23 [.int .i64 n] (.bool (momB n)):=by
 have o:=outside_sem n 0 1000000000000000
 unfold momB
 refine si [1000028,1000035,1000036,1000043,1000044,1000046] Tryd.func23 ?_
 repeat'((conv=>whnf);first|(try(first|apply eN|apply eC);conv=>whnf);apply sD;(focus first|exact gx o|(refine gx (outside_sem ?_ ?_ ?_)<;>exact pre)|exact side)|apply rR|apply rE|apply rH| (apply cD<;>intro hb<;>(try simp only[SPLT]at hb)<;>try exact noB))
 all_goals try exact false
 exact finR
def prevT (l:List Arr):Nat→Option Int
 |0=>none
 |k+1=>(l[k]?).map Arr.time
theorem arrs_at {l:List Arr} {k:Nat} {a:Arr} (p:Option Int) (h:l[k]?=some a):arrs p (l.drop k)=if arrF p a ≠ 0 then arrF p a else arrs (some a.time) (l.drop (k+1)):=by
 rw [List.drop_eq_getElem?_toList_append,h]
 rfl
theorem checkArrivals_sem (l:List Arr) (hd:∀ a ∈ l,a.dig.length≤9223372036854775807) (hl:l.length≤9223372036854775807):Sem Tryd.prog 11 [.sl 0 3 (l.map Arr.row)] (.int .i64 (arrErr l)):=by
 have hll:(l.map Arr.row).length=l.length:=List.length_map _
 unfold arrErr
 by_cases hbig:1000 < l.length
 ·refine si [1000028,1000035,1000036,1000043,1000044,1000046] Tryd.func11 ?_
  repeat'((conv=>whnf);first|(try(first|apply eN|apply eI|apply eC);conv=>whnf);apply sD;(focus(try intro hc;have hc0:=hc;(try simp only[SPLT]at hc);try refine and0 ?_);first|(refine gx (isMoment_sem ?_)<;>exact pre)|(refine gx (isDigest_sem ?_ ?_)<;>exact pre)|exact sideG)|(first|apply dG|apply kB);kernel_rfl|apply rR|apply rE|apply rH| (apply cD<;>intro hb<;>(try simp only[SPLT]at hb)<;>try exact noB))
  all_goals try exact false
  repeat' ((conv=>whnf);first|exact endR|with_reducible first|apply And.intro|apply oR|apply oN|apply dC)
  all_goals (conv=>whnf)
  exact rle_int (by rw [if_pos hbig])
 ·rw [if_neg hbig]
  generalize hr:arrs none l=r
  refine si [4,2000004,1000028,1000035,1000036,1000043,1000044,1000046] Tryd.func11 ?_
  repeat'((conv=>whnf);first|(try(first|apply eN|apply eI|apply eC);conv=>whnf);apply sD;(focus(try intro hc;have hc0:=hc;(try simp only[SPLT]at hc);try refine and0 ?_);first|(refine gx (isMoment_sem ?_)<;>exact pre)|(refine gx (isDigest_sem ?_ ?_)<;>exact pre)|exact sideG)|(first|apply dG|apply kB);kernel_rfl|apply rR|apply rE|apply rH| (apply cD<;>intro hb<;>(try simp only[SPLT]at hb)<;>try exact noB))
  all_goals try exact false
  refine loop_go (M:=fun t=>mem t [4,2000004,1000028,1000035,1000036,1000043,1000044,1000046]) hT hM (fun k:Nat => [(10,.int .i64 k)]) (fun k=>k≤l.length∧arrs (prevT l k) (l.drop k)=r) (fun k=>l.length - k) (0) ?_ ?_ ?_
  ·exact finF
  ·exact ⟨by omega,hr⟩
  ·rintro k ⟨hk,hv⟩
   rcases hx:l[k]? with _|a
   ·have hm:=List.getElem?_eq_none_iff.1 hx
    rw [List.drop_of_length_le hm] at hv
    repeat'((conv=>whnf);first|(try(first|apply eN|apply eI|apply eC);conv=>whnf);apply sD;(focus(try intro hc;have hc0:=hc;(try simp only[SPLT]at hc);try refine and0 ?_);first|(refine gx (isMoment_sem ?_)<;>exact pre)|(refine gx (isDigest_sem ?_ ?_)<;>exact pre)|exact sideG)|(first|apply dG|apply kB);kernel_rfl|apply rR|apply rE|apply rH| (apply cD<;>intro hb<;>(try simp only[SPLT]at hb)<;>try exact noB))
    all_goals try exact false
    repeat' ((conv=>whnf);first|exact endR|with_reducible first|apply And.intro|apply oR|apply oN|apply dC)
    all_goals (conv=>whnf)
    exact rle_int hv
   ·have hlt:=(gLt hx)
    have c1:=isMoment_sem a.time
    have c2:=isDigest_sem a.dig (hd a (gMem hx))
    rw [arrs_at _ hx] at hv
    have hnx:prevT l (k+1)=some a.time:=by simp [prevT,hx]
    cases hmb:momB a.time with
    |false=>
     have e:arrF (prevT l k) a=1:=by unfold arrF;rw [if_pos hmb]
     rw [e,if_pos (by decide)] at hv
     subst hv
     rw [hmb] at c1
     repeat'((conv=>whnf);first|(try(first|apply eN|apply eI|apply eC);conv=>whnf);apply sD;(focus(try intro hc;have hc0:=hc;(try simp only[SPLT]at hc);try refine and0 ?_);first|(exact idx_eq (f:=Arr.row) hx rfl)|exact gx c1|(refine gx (isMoment_sem ?_)<;>exact pre)|(refine gx (isDigest_sem ?_ ?_)<;>exact pre)|exact sideG)|(first|apply dG|apply kB);kernel_rfl|apply rR|apply rE|apply rH| (apply cD<;>intro hb<;>(try simp only[SPLT]at hb)<;>try exact noB))
     all_goals try exact false
     exact finR
    |true=>
     rw [hmb] at c1
     cases hdg:isDig a.dig with
     |false=>
      have e:arrF (prevT l k) a=3:=by unfold arrF;rw [if_neg (by rw [hmb];simp),if_pos hdg]
      rw [e,if_pos (by decide)] at hv
      subst hv
      rw [hdg] at c2
      repeat'((conv=>whnf);first|(try(first|apply eN|apply eI|apply eC);conv=>whnf);apply sD;(focus(try intro hc;have hc0:=hc;(try simp only[SPLT]at hc);try refine and0 ?_);first|(exact idx_eq (f:=Arr.row) hx rfl)|exact gx c1|exact gx c2|(refine gx (isMoment_sem ?_)<;>exact pre)|(refine gx (isDigest_sem ?_ ?_)<;>exact pre)|exact sideG)|(first|apply dG|apply kB);kernel_rfl|apply rR|apply rE|apply rH| (apply cD<;>intro hb<;>(try simp only[SPLT]at hb)<;>try exact noB))
      all_goals try exact false
      exact finR
     |true=>
      rw [hdg] at c2
      cases k with
      |zero=>
       have e:arrF (prevT l 0) a=0:=by unfold arrF;rw [if_neg (by rw [hmb];simp),if_neg (by rw [hdg];simp)];rfl
       rw [e,if_neg (by decide),← hnx] at hv
       repeat'((conv=>whnf);first|(try(first|apply eN|apply eI|apply eC);conv=>whnf);apply sD;(focus(try intro hc;have hc0:=hc;(try simp only[SPLT]at hc);try refine and0 ?_);first|(exact idx_eq (f:=Arr.row) hx rfl)|(exact show 0≤_∧_=some [D.int .i64 0,D.int .i64 0,D.str []] from absurd hc0 (by simp))|exact gx c1|exact gx c2|(refine gx (isMoment_sem ?_)<;>exact pre)|(refine gx (isDigest_sem ?_ ?_)<;>exact pre)|exact sideG)|(first|apply dG|apply kB);kernel_rfl|apply rR|apply rE|apply rH| (apply cD<;>intro hb<;>(try simp only[SPLT]at hb)<;>try exact noB))
       all_goals try exact false
       refine ⟨1,⟨by omega,hv⟩,by omega,?_⟩
       exact finF
      |succ k=>
       obtain ⟨b,hb0⟩:∃ b,l[k]?=some b:=⟨_,List.getElem?_eq_getElem (by omega)⟩
       have hp:prevT l (k+1)=some b.time:=by simp [prevT,hb0]
       by_cases hlt2:a.time < b.time
       ·have e:arrF (prevT l (k+1)) a=8:=by unfold arrF;rw [if_neg (by rw [hmb];simp),if_neg (by rw [hdg];simp),hp];exact if_pos hlt2
        rw [e,if_pos (by decide)] at hv
        subst hv
        repeat'((conv=>whnf);first|(try(first|apply eN|apply eI|apply eC);conv=>whnf);apply sD;(focus(try intro hc;have hc0:=hc;(try simp only[SPLT]at hc);try refine and0 ?_);first|(exact idx_eq (f:=Arr.row) hx rfl)|(exact idx_eq (f:=Arr.row) hb0 (by omega))|exact gx c1|exact gx c2|(refine gx (isMoment_sem ?_)<;>exact pre)|(refine gx (isDigest_sem ?_ ?_)<;>exact pre)|exact sideG)|(first|apply dG|apply kB);kernel_rfl|apply rR|apply rE|apply rH| (apply cD<;>intro hb<;>(try simp only[SPLT]at hb)<;>try exact noB))
        all_goals try exact false
        exact finR
       ·have e:arrF (prevT l (k+1)) a=0:=by unfold arrF;rw [if_neg (by rw [hmb];simp),if_neg (by rw [hdg];simp),hp];exact if_neg hlt2
        rw [e,if_neg (by decide),← hnx] at hv
        repeat'((conv=>whnf);first|(try(first|apply eN|apply eI|apply eC);conv=>whnf);apply sD;(focus(try intro hc;have hc0:=hc;(try simp only[SPLT]at hc);try refine and0 ?_);first|(exact idx_eq (f:=Arr.row) hx rfl)|(exact idx_eq (f:=Arr.row) hb0 (by omega))|exact gx c1|exact gx c2|(refine gx (isMoment_sem ?_)<;>exact pre)|(refine gx (isDigest_sem ?_ ?_)<;>exact pre)|exact sideG)|(first|apply dG|apply kB);kernel_rfl|apply rR|apply rE|apply rH| (apply cD<;>intro hb<;>(try simp only[SPLT]at hb)<;>try exact noB))
        all_goals try exact false
        refine ⟨k+1+1,⟨by omega,hv⟩,by omega,?_⟩
        exact finF
def IS.froz (s:Ser) (hold:Int) (l:List Arr) (t:IS):List D := [.int .i64 s.first,.int .i64 s.last,.int .i64 hold,.sl 0 3 (l.map Arr.row),.int .i64 t.e,.fmp (.int .i64) (plV t.held),.fmp (.int .i64) (laV t.passed),.sl 0 2 (t.out.map Vd.row),.sl 0 1 (t.passed.map fun y => [.int .i64 y.num])]
def skip (n:Nat):List Vd:=List.replicate n ⟨0,-1⟩
def takN (s:Ser) (hold:Int) (l:List Arr) (time:Int) (k:Nat):IS:=(comeN s hold l (min k (upto time l))).ext (skip (k - upto time l))
theorem ext_nil (t:IS):t.ext []=t:=by
 unfold IS.ext
 rw [List.append_nil]
theorem ext_ext (t:IS) (a b:List Vd):(t.ext a).ext b=t.ext (a++b):=by
 unfold IS.ext
 rw [List.append_assoc]
theorem takN_ok {s:Ser} {hold:Int} {l:List Arr} (hs:0 < sizeN s) (hs2:sizeN s≤1000000000000000) (time:Int) (k:Nat) (hk:k≤l.length):(takN s hold l time k).Ok k (k * 1000000000000002):=by
 have h:=comeN_ok (s:=s) (hold:=hold) (l:=l) hs hs2 (min k (upto time l)) (by omega)
 have h2:=ext_ok (skip (k - upto time l)) h
 have e:min k (upto time l)+(skip (k - upto time l)).length=k:=by unfold skip;rw [List.length_replicate];omega
 rw [e] at h2
 have hm:((min k (upto time l):Nat):Int) * 1000000000000002≤(k:Int) * 1000000000000002:=by omega
 exact ⟨⟨h2.nums,h2.pnums,h2.inc,h2.dist,h2.ge,fun y hy=>Int.le_trans (h2.le y hy) hm,h2.lo,Int.le_trans h2.hi (by omega),h2.few,h2.out⟩,h2.gt⟩
theorem takN_lo {s:Ser} {hold:Int} {l:List Arr} {time:Int} {k:Nat} (h:k≤upto time l):takN s hold l time k=comeN s hold l k:=by
 unfold takN
 rw [Nat.min_eq_left h,Nat.sub_eq_zero_of_le h]
 exact ext_nil _
theorem takN_skip {s:Ser} {hold:Int} {l:List Arr} {time:Int} {k:Nat} (h:upto time l≤k):takN s hold l time (k+1)=(takN s hold l time k).ext [⟨0,-1⟩]:=by
 unfold takN
 rw [Nat.min_eq_right h,Nat.min_eq_right (by omega),ext_ext]
 congr 1
 unfold skip
 rw [show k+1 - upto time l=(k - upto time l)+1 by omega,List.replicate_succ']
theorem takN_end {s:Ser} {hold:Int} {l:List Arr} (hs:0 < sizeN s) (hs2:sizeN s≤1000000000000000) (time:Int):(takN s hold l time l.length).give l hold time=(runN s hold l time).ext (skip (l.length - upto time l)):=by
 have hu:=upto_le time l
 unfold takN runN
 rw [Nat.min_eq_right hu]
 exact give_tail _ _ (comeN_ok hs hs2 _ hu)
def takenD (s:Ser) (hold:Int) (l:List Arr) (time:Int):D:=
 if askErr s hold l ≠ 0 then .tup [.pv (.pointer none),.int .i64 (askErr s hold l)] else .tup [.ptr (((runN s hold l time).ext (skip (l.length - upto time l))).froz s hold l),.int .i64 0]
theorem arrs_time:∀ {l:List Arr} {p:Option Int},arrs p l=0→∀ a ∈ l,0≤a.time∧a.time≤1000000000000000
 |b::l,p,h,a,ha=>by
  unfold arrs at h
  split at h
  ·omega
  ·rename_i h1
   rcases List.mem_cons.1 ha with rfl|ha
   ·unfold arrF at h1
    split at h1
    ·omega
    ·rename_i h2
     simp only [momB,Bool.not_eq_false',Bool.not_eq_true,Bool.or_eq_true,decide_eq_true_eq] at h2
     simp at h2
     omega
   ·exact arrs_time h a ha
theorem all_drop {l:List Arr} {k:Nat} {a:Arr} (s:Ser) (h:l[k]?=some a):allOf s (l.drop k)=(isOfB s a.num && allOf s (l.drop (k+1))):=by
 rw [List.drop_eq_getElem?_toList_append,h]
 rfl
theorem taken_sem (s:Ser) (hold:Int) (l:List Arr) (time:Int) (hd:∀ a ∈ l,a.dig.length≤9223372036854775807) (hl:l.length≤9223372036854775807):Sem Tryd.prog 18 [s.d,.int .i64 hold,.sl 0 3 (l.map Arr.row),.int .i64 time] (takenD s hold l time):=by
 have hll:(l.map Arr.row).length=l.length:=List.length_map _
 have c1:=checkSeries_sem s
 have c2:=checkArrivals_sem l hd hl
 have c3:=outside_sem hold 1 100000000
 unfold takenD
 by_cases e1:seriesFaultN s=0
 ·rw [e1] at c1
  by_cases e2:arrErr l=0
  ·rw [e2] at c2
   have hl2:l.length≤1000:=by
    unfold arrErr at e2
    split at e2
    ·omega
    ·omega
   generalize hall:allOf s l=al
   cases al with
   |false=>
    have ea:askErr s hold l=1:=by unfold askErr;rw [if_neg (by omega),if_neg (by omega),if_pos hall]
    rw [if_pos (by rw [ea];decide),ea]
    refine si [13,2000013,8000046,46,4000046,9000008,1000028,1000035,1000036,1000043,1000044,1000046] Tryd.func18 ?_
    repeat'((conv=>whnf);first|(try(first|apply eN|apply eI|apply eC);conv=>whnf);apply sD;(focus first|exact gx c1|exact gx c2|(refine gx (checkSeries_sem ?_)<;>exact pre)|(refine gx (checkArrivals_sem ?_ ?_ ?_)<;>exact pre)|(refine gx (isOf_sem ?_ ?_)<;>exact pre)|(refine gx (outside_sem ?_ ?_ ?_)<;>exact pre)|exact side)|((with_reducible apply CallO.go);(conv=>whnf);(with_reducible apply sD);(focus (first|((apply giveso_go (release_sem _ _ _ _ _ _ _ _ _ _ _));(focus (first|exact rfl|(simp;done)));(focus (exact DLes.au));exact rfl;(all_goals (exact pre)))|((apply giveso_go (arrive_sem _ _ _ _ _ _ _ _ _ _ _));(focus (first|exact rfl|(simp;done)));(focus (exact DLes.au));exact rfl;(all_goals (exact pre))))))|apply rR|apply rE|apply rH| (apply cD<;>intro hb<;>(try simp only[SPLT]at hb)<;>try exact noB))
    all_goals try exact false
    refine loop_go (M:=fun t=>mem t [13,2000013,8000046,46,4000046,9000008,1000028,1000035,1000036,1000043,1000044,1000046]) hT hM (fun k:Nat => [(28,.int .i64 k)]) (fun k=>k≤l.length∧allOf s (l.drop k)=false) (fun k=>l.length - k) (0) ?_ ?_ ?_
    ·exact finF
    ·exact ⟨by omega,hall⟩
    ·rintro k ⟨hk,hv⟩
     rcases hx:l[k]? with _|a
     ·have hm:=List.getElem?_eq_none_iff.1 hx
      rw [List.drop_of_length_le hm] at hv
      cases hv
     ·have hlt:=(gLt hx)
      have c4:Sem Tryd.prog 33 [s.d,.int .i64 a.num] (.bool (isOfB s a.num)):=isOf_sem s a.num
      rw [all_drop s hx] at hv
      cases hof:isOfB s a.num with
      |false=>
       rw [hof] at c4
       repeat'((conv=>whnf);first|(try(first|apply eN|apply eI|apply eC);conv=>whnf);apply sD;(focus first|(exact idx_eq (f:=Arr.row) hx rfl)|exact gx c4|(refine gx (checkSeries_sem ?_)<;>exact pre)|(refine gx (checkArrivals_sem ?_ ?_ ?_)<;>exact pre)|(refine gx (isOf_sem ?_ ?_)<;>exact pre)|(refine gx (outside_sem ?_ ?_ ?_)<;>exact pre)|exact side)|((with_reducible apply CallO.go);(conv=>whnf);(with_reducible apply sD);(focus (first|((apply giveso_go (release_sem _ _ _ _ _ _ _ _ _ _ _));(focus (first|exact rfl|(simp;done)));(focus (exact DLes.au));exact rfl;(all_goals (exact pre)))|((apply giveso_go (arrive_sem _ _ _ _ _ _ _ _ _ _ _));(focus (first|exact rfl|(simp;done)));(focus (exact DLes.au));exact rfl;(all_goals (exact pre))))))|apply rR|apply rE|apply rH| (apply cD<;>intro hb<;>(try simp only[SPLT]at hb)<;>try exact noB))
       all_goals try exact false
       exact finR
      |true=>
       rw [hof] at c4 hv
       repeat'((conv=>whnf);first|(try(first|apply eN|apply eI|apply eC);conv=>whnf);apply sD;(focus first|(exact idx_eq (f:=Arr.row) hx rfl)|exact gx c4|(refine gx (checkSeries_sem ?_)<;>exact pre)|(refine gx (checkArrivals_sem ?_ ?_ ?_)<;>exact pre)|(refine gx (isOf_sem ?_ ?_)<;>exact pre)|(refine gx (outside_sem ?_ ?_ ?_)<;>exact pre)|exact side)|((with_reducible apply CallO.go);(conv=>whnf);(with_reducible apply sD);(focus (first|((apply giveso_go (release_sem _ _ _ _ _ _ _ _ _ _ _));(focus (first|exact rfl|(simp;done)));(focus (exact DLes.au));exact rfl;(all_goals (exact pre)))|((apply giveso_go (arrive_sem _ _ _ _ _ _ _ _ _ _ _));(focus (first|exact rfl|(simp;done)));(focus (exact DLes.au));exact rfl;(all_goals (exact pre))))))|apply rR|apply rE|apply rH| (apply cD<;>intro hb<;>(try simp only[SPLT]at hb)<;>try exact noB))
       all_goals try exact false
       refine ⟨k+1,⟨by omega,hv⟩,by omega,?_⟩
       exact finF
   |true=>
    by_cases e3:outB hold 1 100000000=true
    ·have ea:askErr s hold l=1:=by unfold askErr;rw [if_neg (by omega),if_neg (by omega),if_neg (by rw [hall];simp),if_pos e3]
     rw [if_pos (by rw [ea];decide),ea]
     have c3:Sem Tryd.prog 34 [.int .i64 hold,.int .i64 1,.int .i64 100000000] (.bool (outB hold 1 100000000)):=c3
     rw [e3] at c3
     refine si [13,2000013,8000046,46,4000046,9000008,1000028,1000035,1000036,1000043,1000044,1000046] Tryd.func18 ?_
     repeat'((conv=>whnf);first|(try(first|apply eN|apply eI|apply eC);conv=>whnf);apply sD;(focus first|exact gx c1|exact gx c2|(refine gx (checkSeries_sem ?_)<;>exact pre)|(refine gx (checkArrivals_sem ?_ ?_ ?_)<;>exact pre)|(refine gx (isOf_sem ?_ ?_)<;>exact pre)|(refine gx (outside_sem ?_ ?_ ?_)<;>exact pre)|exact side)|((with_reducible apply CallO.go);(conv=>whnf);(with_reducible apply sD);(focus (first|((apply giveso_go (release_sem _ _ _ _ _ _ _ _ _ _ _));(focus (first|exact rfl|(simp;done)));(focus (exact DLes.au));exact rfl;(all_goals (exact pre)))|((apply giveso_go (arrive_sem _ _ _ _ _ _ _ _ _ _ _));(focus (first|exact rfl|(simp;done)));(focus (exact DLes.au));exact rfl;(all_goals (exact pre))))))|apply rR|apply rE|apply rH| (apply cD<;>intro hb<;>(try simp only[SPLT]at hb)<;>try exact noB))
     all_goals try exact false
     refine loop_go (M:=fun t=>mem t [13,2000013,8000046,46,4000046,9000008,1000028,1000035,1000036,1000043,1000044,1000046]) hT hM (fun k:Nat => [(28,.int .i64 k)]) (fun k=>k≤l.length∧allOf s (l.drop k)=true) (fun k=>l.length - k) (0) ?_ ?_ ?_
     ·exact finF
     ·exact ⟨by omega,hall⟩
     ·rintro k ⟨hk,hv⟩
      rcases hx:l[k]? with _|a
      ·have hm:=List.getElem?_eq_none_iff.1 hx
       repeat'((conv=>whnf);first|(try(first|apply eN|apply eI|apply eC);conv=>whnf);apply sD;(focus first|exact gx c3|(refine gx (checkSeries_sem ?_)<;>exact pre)|(refine gx (checkArrivals_sem ?_ ?_ ?_)<;>exact pre)|(refine gx (isOf_sem ?_ ?_)<;>exact pre)|(refine gx (outside_sem ?_ ?_ ?_)<;>exact pre)|exact side)|((with_reducible apply CallO.go);(conv=>whnf);(with_reducible apply sD);(focus (first|((apply giveso_go (release_sem _ _ _ _ _ _ _ _ _ _ _));(focus (first|exact rfl|(simp;done)));(focus (exact DLes.au));exact rfl;(all_goals (exact pre)))|((apply giveso_go (arrive_sem _ _ _ _ _ _ _ _ _ _ _));(focus (first|exact rfl|(simp;done)));(focus (exact DLes.au));exact rfl;(all_goals (exact pre))))))|apply rR|apply rE|apply rH| (apply cD<;>intro hb<;>(try simp only[SPLT]at hb)<;>try exact noB))
       all_goals try exact false
       exact finR
      ·have hlt:=(gLt hx)
       have c4:Sem Tryd.prog 33 [s.d,.int .i64 a.num] (.bool (isOfB s a.num)):=isOf_sem s a.num
       rw [all_drop s hx,Bool.and_eq_true] at hv
       rw [hv.1] at c4
       repeat'((conv=>whnf);first|(try(first|apply eN|apply eI|apply eC);conv=>whnf);apply sD;(focus first|(exact idx_eq (f:=Arr.row) hx rfl)|exact gx c4|(refine gx (checkSeries_sem ?_)<;>exact pre)|(refine gx (checkArrivals_sem ?_ ?_ ?_)<;>exact pre)|(refine gx (isOf_sem ?_ ?_)<;>exact pre)|(refine gx (outside_sem ?_ ?_ ?_)<;>exact pre)|exact side)|((with_reducible apply CallO.go);(conv=>whnf);(with_reducible apply sD);(focus (first|((apply giveso_go (release_sem _ _ _ _ _ _ _ _ _ _ _));(focus (first|exact rfl|(simp;done)));(focus (exact DLes.au));exact rfl;(all_goals (exact pre)))|((apply giveso_go (arrive_sem _ _ _ _ _ _ _ _ _ _ _));(focus (first|exact rfl|(simp;done)));(focus (exact DLes.au));exact rfl;(all_goals (exact pre))))))|apply rR|apply rE|apply rH| (apply cD<;>intro hb<;>(try simp only[SPLT]at hb)<;>try exact noB))
       all_goals try exact false
       refine ⟨k+1,⟨by omega,hv.2⟩,by omega,?_⟩
       exact finF
    ·have ea:askErr s hold l=0:=by unfold askErr;rw [if_neg (by omega),if_neg (by omega),if_neg (by rw [hall];simp),if_neg e3]
     rw [if_neg (by rw [ea];decide)]
     have c3:Sem Tryd.prog 34 [.int .i64 hold,.int .i64 1,.int .i64 100000000] (.bool (outB hold 1 100000000)):=c3
     have e3:outB hold 1 100000000=false:=by simpa using e3
     rw [e3] at c3
     have hh:1≤hold∧hold≤100000000:=by
      unfold outB at e3
      simp at e3
      omega
     have hz:=sizeN_bd s e1
     have e1':=e1
     have hin:∀ a ∈ l,s.first≤a.num∧a.num≤s.last:=fun a ha=>by
      have:=List.all_eq_true.1 hall a ha
      simp [isOfB,outB] at this
      omega
     have htm:=arrs_time (l:=l) (p:=none) (by unfold arrErr at e2;rw [if_neg (by omega)] at e2;exact e2)
     have hup:=fun (k:Nat) (a:Arr) (hx:l[k]?=some a)=>upto_at (time:=time) (p:=none) (by unfold arrErr at e2;rw [if_neg (by omega)] at e2;exact e2) hx
     refine si [13,2000013,8000046,46,4000046,9000008,1000028,1000035,1000036,1000043,1000044,1000046] Tryd.func18 ?_
     repeat'((conv=>whnf);first|(try(first|apply eN|apply eI|apply eC);conv=>whnf);apply sD;(focus first|exact gx c1|exact gx c2|(refine gx (checkSeries_sem ?_)<;>exact pre)|(refine gx (checkArrivals_sem ?_ ?_ ?_)<;>exact pre)|(refine gx (isOf_sem ?_ ?_)<;>exact pre)|(refine gx (outside_sem ?_ ?_ ?_)<;>exact pre)|exact side)|((with_reducible apply CallO.go);(conv=>whnf);(with_reducible apply sD);(focus (first|((apply giveso_go (release_sem _ _ _ _ _ _ _ _ _ _ _));(focus (first|exact rfl|(simp;done)));(focus (exact DLes.au));exact rfl;(all_goals (exact pre)))|((apply giveso_go (arrive_sem _ _ _ _ _ _ _ _ _ _ _));(focus (first|exact rfl|(simp;done)));(focus (exact DLes.au));exact rfl;(all_goals (exact pre))))))|apply rR|apply rE|apply rH| (apply cD<;>intro hb<;>(try simp only[SPLT]at hb)<;>try exact noB))
     all_goals try exact false
     refine loop_go (M:=fun t=>mem t [13,2000013,8000046,46,4000046,9000008,1000028,1000035,1000036,1000043,1000044,1000046]) hT hM (fun k:Nat => [(28,.int .i64 k)]) (fun k=>k≤l.length∧allOf s (l.drop k)=true) (fun k=>l.length - k) (0) ?_ ?_ ?_
     ·exact finF
     ·exact ⟨by omega,hall⟩
     ·rintro k ⟨hk,hv⟩
      rcases hx:l[k]? with _|a
      ·have hm:=List.getElem?_eq_none_iff.1 hx
       repeat'((conv=>whnf);first|(try(first|apply eN|apply eI|apply eC);conv=>whnf);apply sD;(focus first|exact gx c3|(refine gx (checkSeries_sem ?_)<;>exact pre)|(refine gx (checkArrivals_sem ?_ ?_ ?_)<;>exact pre)|(refine gx (isOf_sem ?_ ?_)<;>exact pre)|(refine gx (outside_sem ?_ ?_ ?_)<;>exact pre)|exact side)|((with_reducible apply CallO.go);(conv=>whnf);(with_reducible apply sD);(focus (first|((apply giveso_go (release_sem _ _ _ _ _ _ _ _ _ _ _));(focus (first|exact rfl|(simp;done)));(focus (exact DLes.au));exact rfl;(all_goals (exact pre)))|((apply giveso_go (arrive_sem _ _ _ _ _ _ _ _ _ _ _));(focus (first|exact rfl|(simp;done)));(focus (exact DLes.au));exact rfl;(all_goals (exact pre))))))|apply rR|apply rE|apply rH| (apply cD<;>intro hb<;>(try simp only[SPLT]at hb)<;>try exact noB))
       all_goals try exact false
       refine ht_nil [(46,7,2),(46,8,1)] ?_
       conv=>whnf
       refine loop_go (M:=fun t=>mem t [13,2000013,8000046,46,4000046,9000008,1000028,1000035,1000036,1000043,1000044,1000046]) hT hM (fun k:Nat => [(49,.int .i64 k),(46,.obj ((takN s hold l time k).cells s hold l))]) (fun k=>k≤l.length) (fun k=>l.length - k) (0) ?_ ?_ ?_
       ·(conv=>whnf)
        refine ⟨?_,by rfl⟩
        repeat' ((conv=>whnf);first|exact endF|(exact DLe.of_eq (by rw [takN_lo (Nat.zero_le _)];rfl))|exact endF2|with_reducible apply dC)
       ·omega
       ·intro k hk
        dsimp only at hk ⊢
        have hz0:0 < sizeN s:=by omega
        have hok:=takN_ok (s:=s) (hold:=hold) (l:=l) hz0 hz.2 time k hk
        have hol:=hok.out
        rcases hx2:l[k]? with _|a
        ·have hke:k=l.length:=by have:=List.getElem?_eq_none_iff.1 hx2;omega
         subst hke
         have hrel:=release_sem s hold l _ time hok (Nat.le_refl _) (by omega) (by omega) ⟨by omega,by omega⟩ htm
         rw [takN_end hz0 hz.2] at hrel
         generalize (runN s hold l time).ext (skip (l.length - upto time l))=y at hrel ⊢
         generalize takN s hold l time l.length=x at hrel ⊢
         unfold IS.cells at hrel ⊢
         unfold IS.froz
         repeat'((conv=>whnf);first|(try(first|apply eN|apply eI|apply eC);conv=>whnf);apply sD;(focus first|(refine gx (checkSeries_sem ?_)<;>exact pre)|(refine gx (checkArrivals_sem ?_ ?_ ?_)<;>exact pre)|(refine gx (isOf_sem ?_ ?_)<;>exact pre)|(refine gx (outside_sem ?_ ?_ ?_)<;>exact pre)|exact side)|((with_reducible apply CallO.go);(conv=>whnf);(with_reducible apply sD);(focus (first|((apply giveso_go (hrel));(focus (first|exact rfl|(simp;done)));(focus (exact DLes.au));exact rfl;(all_goals (exact pre))))))|apply rR|apply rE|apply rH| (apply cD<;>intro hb<;>(try simp only[SPLT]at hb)<;>try exact noB))
         all_goals try exact false
         exact finR
        ·have hlt2:=(gLt hx2)
         by_cases hc:a.time≤time
         ·have hku:=(hup k a hx2).1 hc
          have e0:=takN_lo (s:=s) (hold:=hold) (Nat.le_of_lt hku)
          have e1:=takN_lo (s:=s) (hold:=hold) (k:=k+1) (time:=time) (l:=l) hku
          rw [e0] at hok hol ⊢
          obtain ⟨p1,p2,p3⟩:=come_pre hx2 hok
          have hrel:=release_sem s hold l _ a.time (ext_ok [⟨0,-1⟩] hok) (show k+1≤l.length by omega) (by omega) (by omega) ⟨by omega,by omega⟩ htm
          rw [give_tail _ _ hok] at hrel
          have harr:=arrive_sem s hold l _ p3 hx2 e1' (hin a (gMem hx2)) hl2 (by omega) (by omega)
          rw [← p1] at harr
          show forceH _ _
          change SemO _ _ _ _ _ (some (.obj (((preN s hold l k a).ext [⟨0,-1⟩]).cells s hold l))) at hrel
          generalize (preN s hold l k a).ext [⟨0,-1⟩]=y at hrel harr
          rw [← e1] at harr
          have hap:((comeN s hold l k).ext [⟨0,-1⟩]).out.map Vd.row=(comeN s hold l k).out.map Vd.row ++ [[.int .i64 0,.int .i64 (-1)]]:=by unfold IS.ext;rw [List.map_append];rfl
          unfold IS.cells at hrel harr ⊢
          rw [hap] at hrel
          generalize comeN s hold l k=x at hrel hol ⊢
          generalize hz1:takN s hold l time (k+1)=z at harr
          repeat'((conv=>whnf);first|(try(first|apply eN|apply eI|apply eC);conv=>whnf);apply sD;(focus first|(exact idx_eq (f:=Arr.row) hx2 rfl)|(refine gx (checkSeries_sem ?_)<;>exact pre)|(refine gx (checkArrivals_sem ?_ ?_ ?_)<;>exact pre)|(refine gx (isOf_sem ?_ ?_)<;>exact pre)|(refine gx (outside_sem ?_ ?_ ?_)<;>exact pre)|exact side)|((with_reducible apply CallO.go);(conv=>whnf);(with_reducible apply sD);(focus (first|((apply giveso_go (hrel));(focus (first|exact rfl|(simp;done)));(focus (exact DLes.au));exact rfl;(all_goals (exact pre)))|((apply giveso_go (harr));(focus (first|exact rfl|(simp;done)));(focus (exact DLes.au));exact rfl;(all_goals (exact pre))))))|apply rR|apply rE|apply rH| (apply cD<;>intro hb<;>(try simp only[SPLT]at hb)<;>try exact noB))
          all_goals try exact false
          refine ⟨k+1,by omega,by omega,?_⟩
          rw [hz1]
          exact finF
         ·have hku:¬ k < upto time l:=fun h=>hc ((hup k a hx2).2 h)
          have e1:=takN_skip (s:=s) (hold:=hold) (k:=k) (time:=time) (l:=l) (by omega)
          generalize takN s hold l time k=x at e1 hol ⊢
          generalize hz1:takN s hold l time (k+1)=z at e1
          have hap:(x.ext [⟨0,-1⟩]).out.map Vd.row=x.out.map Vd.row ++ [[.int .i64 0,.int .i64 (-1)]]:=by unfold IS.ext;rw [List.map_append];rfl
          unfold IS.cells
          repeat'((conv=>whnf);first|(try(first|apply eN|apply eI|apply eC);conv=>whnf);apply sD;(focus first|(exact idx_eq (f:=Arr.row) hx2 rfl)|(refine gx (checkSeries_sem ?_)<;>exact pre)|(refine gx (checkArrivals_sem ?_ ?_ ?_)<;>exact pre)|(refine gx (isOf_sem ?_ ?_)<;>exact pre)|(refine gx (outside_sem ?_ ?_ ?_)<;>exact pre)|exact side)|((with_reducible apply CallO.go);(conv=>whnf);(with_reducible apply sD);(focus (first|((apply giveso_go (release_sem _ _ _ _ _ _ _ _ _ _ _));(focus (first|exact rfl|(simp;done)));(focus (exact DLes.au));exact rfl;(all_goals (exact pre)))|((apply giveso_go (arrive_sem _ _ _ _ _ _ _ _ _ _ _));(focus (first|exact rfl|(simp;done)));(focus (exact DLes.au));exact rfl;(all_goals (exact pre))))))|apply rR|apply rE|apply rH| (apply cD<;>intro hb<;>(try simp only[SPLT]at hb)<;>try exact noB))
          all_goals try exact false
          refine ⟨k+1,by omega,by omega,?_⟩
          rw [hz1,e1]
          (conv=>whnf)
          refine ⟨?_,by rfl⟩
          repeat' ((conv=>whnf);first|exact endF|(exact DLe.of_eq (by rw [hap];rfl))|exact endF2|with_reducible apply dC)
      ·have hlt:=(gLt hx)
       have c4:Sem Tryd.prog 33 [s.d,.int .i64 a.num] (.bool (isOfB s a.num)):=isOf_sem s a.num
       rw [all_drop s hx,Bool.and_eq_true] at hv
       rw [hv.1] at c4
       repeat'((conv=>whnf);first|(try(first|apply eN|apply eI|apply eC);conv=>whnf);apply sD;(focus first|(exact idx_eq (f:=Arr.row) hx rfl)|exact gx c4|(refine gx (checkSeries_sem ?_)<;>exact pre)|(refine gx (checkArrivals_sem ?_ ?_ ?_)<;>exact pre)|(refine gx (isOf_sem ?_ ?_)<;>exact pre)|(refine gx (outside_sem ?_ ?_ ?_)<;>exact pre)|exact side)|((with_reducible apply CallO.go);(conv=>whnf);(with_reducible apply sD);(focus (first|((apply giveso_go (release_sem _ _ _ _ _ _ _ _ _ _ _));(focus (first|exact rfl|(simp;done)));(focus (exact DLes.au));exact rfl;(all_goals (exact pre)))|((apply giveso_go (arrive_sem _ _ _ _ _ _ _ _ _ _ _));(focus (first|exact rfl|(simp;done)));(focus (exact DLes.au));exact rfl;(all_goals (exact pre))))))|apply rR|apply rE|apply rH| (apply cD<;>intro hb<;>(try simp only[SPLT]at hb)<;>try exact noB))
       all_goals try exact false
       refine ⟨k+1,⟨by omega,hv.2⟩,by omega,?_⟩
       exact finF
  ·have ea:askErr s hold l=arrErr l:=by unfold askErr;rw [if_neg (by omega),if_pos e2]
   rw [if_pos (by rw [ea];exact e2),ea]
   refine si [13,2000013,8000046,46,4000046,9000008,1000028,1000035,1000036,1000043,1000044,1000046] Tryd.func18 ?_
   repeat'((conv=>whnf);first|(try(first|apply eN|apply eI|apply eC);conv=>whnf);apply sD;(focus first|exact gx c1|exact gx c2|(refine gx (checkSeries_sem ?_)<;>exact pre)|(refine gx (checkArrivals_sem ?_ ?_ ?_)<;>exact pre)|(refine gx (isOf_sem ?_ ?_)<;>exact pre)|(refine gx (outside_sem ?_ ?_ ?_)<;>exact pre)|exact side)|((with_reducible apply CallO.go);(conv=>whnf);(with_reducible apply sD);(focus (first|((apply giveso_go (release_sem _ _ _ _ _ _ _ _ _ _ _));(focus (first|exact rfl|(simp;done)));(focus (exact DLes.au));exact rfl;(all_goals (exact pre)))|((apply giveso_go (arrive_sem _ _ _ _ _ _ _ _ _ _ _));(focus (first|exact rfl|(simp;done)));(focus (exact DLes.au));exact rfl;(all_goals (exact pre))))))|apply rR|apply rE|apply rH| (apply cD<;>intro hb<;>(try simp only[SPLT]at hb)<;>try exact noB))
   all_goals try exact false
   exact finR
 ·have ea:askErr s hold l=seriesFaultN s:=by unfold askErr;rw [if_pos e1]
  rw [if_pos (by rw [ea];exact e1),ea]
  refine si [13,2000013,8000046,46,4000046,9000008,1000028,1000035,1000036,1000043,1000044,1000046] Tryd.func18 ?_
  repeat'((conv=>whnf);first|(try(first|apply eN|apply eI|apply eC);conv=>whnf);apply sD;(focus first|exact gx c1|(refine gx (checkSeries_sem ?_)<;>exact pre)|(refine gx (checkArrivals_sem ?_ ?_ ?_)<;>exact pre)|(refine gx (isOf_sem ?_ ?_)<;>exact pre)|(refine gx (outside_sem ?_ ?_ ?_)<;>exact pre)|exact side)|((with_reducible apply CallO.go);(conv=>whnf);(with_reducible apply sD);(focus (first|((apply giveso_go (release_sem _ _ _ _ _ _ _ _ _ _ _));(focus (first|exact rfl|(simp;done)));(focus (exact DLes.au));exact rfl;(all_goals (exact pre)))|((apply giveso_go (arrive_sem _ _ _ _ _ _ _ _ _ _ _));(focus (first|exact rfl|(simp;done)));(focus (exact DLes.au));exact rfl;(all_goals (exact pre))))))|apply rR|apply rE|apply rH| (apply cD<;>intro hb<;>(try simp only[SPLT]at hb)<;>try exact noB))
  all_goals try exact false
  exact finR
def Vd.rows (l:List Vd):List (List D):=l.map Vd.row
def numRows (l:List Int):List (List D):=l.map fun n => [.int .i64 n]
def numsOf (l:List Sn):List Int:=l.map fun y=>y.num
theorem upto_all {time:Int}:∀ {l:List Arr},(∀ a ∈ l,a.time≤time)→upto time l=l.length
 |[],_=>rfl
 |a::l,h=>by
  rw [upto,if_pos (h a (by simp)),upto_all fun b hb=>h b (by simp [hb]),List.length_cons]
def intakeL (s:Ser) (hold:Int) (l:List Arr):List Vd:=if askErr s hold l ≠ 0 then [] else (runN s hold l 3000000000000000).out
theorem intake_sem (s:Ser) (hold:Int) (l:List Arr) (hd:∀ a ∈ l,a.dig.length≤9223372036854775807) (hl:l.length≤9223372036854775807):Sem Tryd.prog 6 [s.d,.int .i64 hold,.sl 0 3 (l.map Arr.row)] (.tup [.sl 0 2 ((intakeL s hold l).map Vd.row),.int .i64 (askErr s hold l)]):=by
 have c:=taken_sem s hold l 3000000000000000 hd hl
 unfold takenD at c
 unfold intakeL
 by_cases he:askErr s hold l=0
 ·rw [if_neg (by omega)] at c
  rw [if_neg (by omega),he]
  have hu:upto 3000000000000000 l=l.length:=upto_all fun a ha=>by
   have h2:arrErr l=0:=by
    unfold askErr at he
    split at he
    ·omega
    ·split at he
     ·omega
     ·omega
   have:=arrs_time (l:=l) (p:=none) (by unfold arrErr at h2;split at h2<;>omega) a ha
   omega
  rw [hu,Nat.sub_self] at c
  have e:(runN s hold l 3000000000000000).ext (skip 0)=runN s hold l 3000000000000000:=ext_nil _
  rw [e] at c
  generalize runN s hold l 3000000000000000=x at c ⊢
  unfold IS.froz at c
  refine si [1000028,1000035,1000036,1000043,1000044,1000046] Tryd.func6 ?_
  repeat'((conv=>whnf);first|(try(first|apply eN|apply eI|apply eC);conv=>whnf);apply sD;(focus first|exact gx c|(refine gx (taken_sem ?_ ?_ ?_ ?_ ?_ ?_)<;>exact pre)|exact side)|apply rR|apply rE|apply rH| (apply cD<;>intro hb<;>(try simp only[SPLT]at hb)<;>try exact noB))
  all_goals try exact false
  exact finR
 ·rw [if_pos he] at c ⊢
  generalize askErr s hold l=e at c he ⊢
  refine si [1000028,1000035,1000036,1000043,1000044,1000046] Tryd.func6 ?_
  repeat'((conv=>whnf);first|(try(first|apply eN|apply eI|apply eC);conv=>whnf);apply sD;(focus first|exact gx c|(refine gx (taken_sem ?_ ?_ ?_ ?_ ?_ ?_)<;>exact pre)|exact side)|apply rR|apply rE|apply rH| (apply cD<;>intro hb<;>(try simp only[SPLT]at hb)<;>try exact noB))
  all_goals try exact false
  exact finR
def passedE (s:Ser) (hold:Int) (l:List Arr) (time:Int):Int:=if askErr s hold l ≠ 0 then askErr s hold l else if outB time 0 2000000000000000=true then 1 else 0
def passedL (s:Ser) (hold:Int) (l:List Arr) (time:Int):List Int:=if passedE s hold l time ≠ 0 then [] else numsOf (runN s hold l time).passed
def atD (s:Ser) (hold:Int) (l:List Arr) (time:Int):D:=
 if passedE s hold l time ≠ 0 then .tup [.pv (.pointer none),.int .i64 (passedE s hold l time)] else .tup [.ptr (((runN s hold l time).ext (skip (l.length - upto time l))).froz s hold l),.int .i64 0]
theorem at_sem (s:Ser) (hold:Int) (l:List Arr) (time:Int) (hd:∀ a ∈ l,a.dig.length≤9223372036854775807) (hl:l.length≤9223372036854775807):Sem Tryd.prog 20 [s.d,.int .i64 hold,.sl 0 3 (l.map Arr.row),.int .i64 time] (atD s hold l time):=by
 have c:=taken_sem s hold l time hd hl
 have o:Sem Tryd.prog 34 [.int .i64 time,.int .i64 0,.int .i64 2000000000000000] (.bool (outB time 0 2000000000000000)):=outside_sem time 0 2000000000000000
 unfold takenD at c
 unfold atD passedE
 by_cases he:askErr s hold l=0
 ·rw [if_neg (by omega)] at c
  rw [if_neg (c:=askErr s hold l ≠ 0) (by omega)]
  generalize (runN s hold l time).ext (skip (l.length - upto time l))=x at c ⊢
  unfold IS.froz at c ⊢
  cases hb0:outB time 0 2000000000000000 with
  |true=>
   rw [hb0] at o
   rw [if_pos rfl,if_pos (by decide)]
   refine si [1000028,1000035,1000036,1000043,1000044,1000046] Tryd.func20 ?_
   repeat'((conv=>whnf);first|(try(first|apply eN|apply eI|apply eC);conv=>whnf);apply sD;(focus first|exact gx c|exact gx o|(refine gx (taken_sem ?_ ?_ ?_ ?_ ?_ ?_)<;>exact pre)|(refine gx (outside_sem ?_ ?_ ?_)<;>exact pre)|exact side)|apply rR|apply rE|apply rH| (apply cD<;>intro hb<;>(try simp only[SPLT]at hb)<;>try exact noB))
   all_goals try exact false
   exact finR
  |false=>
   rw [hb0] at o
   rw [if_neg (c:=false=true) (by decide),if_neg (by decide)]
   refine si [1000028,1000035,1000036,1000043,1000044,1000046] Tryd.func20 ?_
   repeat'((conv=>whnf);first|(try(first|apply eN|apply eI|apply eC);conv=>whnf);apply sD;(focus first|exact gx c|exact gx o|(refine gx (taken_sem ?_ ?_ ?_ ?_ ?_ ?_)<;>exact pre)|(refine gx (outside_sem ?_ ?_ ?_)<;>exact pre)|exact side)|apply rR|apply rE|apply rH| (apply cD<;>intro hb<;>(try simp only[SPLT]at hb)<;>try exact noB))
   all_goals try exact false
   exact finR
 ·rw [if_pos he] at c ⊢
  rw [if_pos he]
  generalize askErr s hold l=e at c he ⊢
  refine si [1000028,1000035,1000036,1000043,1000044,1000046] Tryd.func20 ?_
  repeat'((conv=>whnf);first|(try(first|apply eN|apply eI|apply eC);conv=>whnf);apply sD;(focus first|exact gx c|(refine gx (taken_sem ?_ ?_ ?_ ?_ ?_ ?_)<;>exact pre)|(refine gx (outside_sem ?_ ?_ ?_)<;>exact pre)|exact side)|apply rR|apply rE|apply rH| (apply cD<;>intro hb<;>(try simp only[SPLT]at hb)<;>try exact noB))
  all_goals try exact false
  exact finR
theorem passed_sem (s:Ser) (hold:Int) (l:List Arr) (time:Int) (hd:∀ a ∈ l,a.dig.length≤9223372036854775807) (hl:l.length≤9223372036854775807):Sem Tryd.prog 8 [s.d,.int .i64 hold,.sl 0 3 (l.map Arr.row),.int .i64 time] (.tup [.sl 0 1 (numRows (passedL s hold l time)),.int .i64 (passedE s hold l time)]):=by
 have c:=at_sem s hold l time hd hl
 unfold atD at c
 unfold passedL
 by_cases he:passedE s hold l time=0
 ·rw [if_neg (by omega)] at c
  rw [if_neg (by omega),he]
  have hp:numRows (numsOf (runN s hold l time).passed)=((runN s hold l time).ext (skip (l.length - upto time l))).passed.map fun y => [D.int .i64 y.num]:=by
   unfold numRows numsOf
   rw [List.map_map]
   rfl
  rw [hp]
  generalize (runN s hold l time).ext (skip (l.length - upto time l))=x at c ⊢
  unfold IS.froz at c
  refine si [1000028,1000035,1000036,1000043,1000044,1000046] Tryd.func8 ?_
  repeat'((conv=>whnf);first|(try(first|apply eN|apply eI|apply eC);conv=>whnf);apply sD;(focus first|exact gx c|(refine gx (at_sem ?_ ?_ ?_ ?_ ?_ ?_)<;>exact pre)|exact side)|apply rR|apply rE|apply rH| (apply cD<;>intro hb<;>(try simp only[SPLT]at hb)<;>try exact noB))
  all_goals try exact false
  exact finR
 ·rw [if_pos he] at c ⊢
  generalize passedE s hold l time=e at c he ⊢
  refine si [1000028,1000035,1000036,1000043,1000044,1000046] Tryd.func8 ?_
  repeat'((conv=>whnf);first|(try(first|apply eN|apply eI|apply eC);conv=>whnf);apply sD;(focus first|exact gx c|(refine gx (at_sem ?_ ?_ ?_ ?_ ?_ ?_)<;>exact pre)|exact side)|apply rR|apply rE|apply rH| (apply cD<;>intro hb<;>(try simp only[SPLT]at hb)<;>try exact noB))
  all_goals try exact false
  exact finR
theorem next19_sem:Sem Tryd.prog 19 [.agg [.int .i64 1,.int .i64 9],.int .i64 9] (.tup [.int .i64 1,.int .i64 0]):=by
 have c:Sem Tryd.prog 32 [.agg [.int .i64 1,.int .i64 9]] (.int .i64 0):=checkSeries_sem ⟨1,9⟩
 have i:Sem Tryd.prog 33 [.agg [.int .i64 1,.int .i64 9],.int .i64 9] (.bool true):=isOf_sem ⟨1,9⟩ 9
 refine si [1000028,1000035,1000036,1000043,1000044,1000046] Tryd.func19 ?_
 repeat'((conv=>whnf);first|(try(first|apply eN|apply eI|apply eC);conv=>whnf);apply sD;(focus first|exact gx c|exact gx i|(refine gx (checkSeries_sem ?_)<;>exact pre)|(refine gx (isOf_sem ?_ ?_)<;>exact pre)|exact side)|apply rR|apply rE|apply rH| (apply cD<;>intro hb<;>(try simp only[SPLT]at hb)<;>try exact noB))
 all_goals try exact false
 exact finR
theorem awake_sem:Sem Tryd.prog 7 [] (.bool true):=by
 refine si [1000028,1000035,1000036,1000043,1000044,1000046] Tryd.func7 ?_
 repeat'((conv=>whnf);first|(try(first|apply eN|apply eC);conv=>whnf);apply sD;(focus(try intro hc;have hc0:=hc;(try simp only[SPLT]at hc);try refine and0 ?_);first|exact gx next19_sem|exact sideG)|apply rR|apply rE|apply rH| (apply cD<;>intro hb<;>(try simp only[SPLT]at hb)<;>try exact noB))
 all_goals try exact false
 exact finR
theorem dropAt {α:Type} {l:List α} {k:Nat} {a:α} (h:l[k]?=some a):l.drop k=a::l.drop (k+1):=by
 obtain ⟨hlt,rfl⟩:=List.getElem?_eq_some_iff.1 h
 exact List.drop_eq_getElem_cons hlt
theorem equalI_sem (x y:List Int) (hx:x.length≤1000000) (hy:y.length≤1000000):Sem Tryd.prog 9 [.sl 0 1 (numRows x),.sl 0 1 (numRows y)] (.bool (x == y)):=by
 have hxl:(numRows x).length=x.length:=List.length_map _
 have hyl:(numRows y).length=y.length:=List.length_map _
 refine si [1000028,1000035,1000036,1000043,1000044,1000046] Tryd.func9 ?_
 repeat'((conv=>whnf);first|(try(first|apply eN|apply eI|apply eC);conv=>whnf);apply sD;(focus first|exact side)|(first|apply dG|apply kB);kernel_rfl|apply rR|apply rE|apply rH| (apply cD<;>intro hb<;>(try simp only[SPLT]at hb)<;>try exact noB))
 all_goals try exact false
 ·repeat' ((conv=>whnf);first|exact endR|with_reducible first|apply And.intro|apply oR|apply oN|apply dC)
  all_goals (conv=>whnf)
  refine rle_bool ?_
  have:x ≠ y:=fun e=>by subst e;exact hb rfl
  simpa using this
 ·have hxy:x.length=y.length:=by first|omega|(simp at hb;omega)
  refine loop_go (M:=fun t=>mem t [1000028,1000035,1000036,1000043,1000044,1000046]) hT hM (fun k:Nat => [(13,.int .i64 k)]) (fun k=>k≤x.length∧(x == y)=(x.drop k == y.drop k)) (fun k=>x.length - k) (0) ?_ ?_ ?_
  ·exact finF
  ·exact ⟨Nat.zero_le _,by simp⟩
  ·rintro k ⟨hk,hrest⟩
   rcases hxk:x[k]? with _|n
   ·have hk':k=x.length:=by have:=List.getElem?_eq_none_iff.1 hxk;omega
    subst hk'
    repeat'((conv=>whnf);first|(try(first|apply eN|apply eI|apply eC);conv=>whnf);apply sD;(focus first|exact side)|(first|apply dG|apply kB);kernel_rfl|apply rR|apply rE|apply rH| (apply cD<;>intro hb<;>(try simp only[SPLT]at hb)<;>try exact noB))
    all_goals try exact false
    repeat' ((conv=>whnf);first|exact endR|with_reducible first|apply And.intro|apply oR|apply oN|apply dC)
    all_goals (conv=>whnf)
    refine rle_bool ?_
    rw [hrest]
    simp [hxy]
   ·have hlt:=(gLt hxk)
    obtain ⟨m,hyk⟩:∃ m,y[k]?=some m:=⟨y[k],List.getElem?_eq_getElem (by omega)⟩
    have hlty:=(gLt hyk)
    rw [dropAt hxk,dropAt hyk] at hrest
    repeat'((conv=>whnf);first|(try(first|apply eN|apply eI|apply eC);conv=>whnf);apply sD;(focus first|(exact idx_eq (f:=fun n => [D.int .i64 n]) hxk rfl)|(exact idx_eq (f:=fun n => [D.int .i64 n]) hyk rfl)|exact side)|(first|apply dG|apply kB);kernel_rfl|apply rR|apply rE|apply rH| (apply cD<;>intro hb<;>(try simp only[SPLT]at hb)<;>try exact noB))
    all_goals try exact false
    ·repeat' ((conv=>whnf);first|exact endR|with_reducible first|apply And.intro|apply oR|apply oN|apply dC)
     all_goals (conv=>whnf)
     refine rle_bool ?_
     rw [hrest]
     simp [hb]
    ·refine ⟨k+1,⟨by omega,?_⟩,by omega,?_⟩
     ·rw [hrest]
      simp [hb]
     ·exact finF
theorem take_rows (l:List Int) (n:Nat):(numRows l).take n=numRows (l.take n):=by
 unfold numRows
 rw [List.map_take]
theorem law6_sem (s:Ser) (hold:Int) (l:List Arr) (time later:Int) (hd:∀ a ∈ l,a.dig.length≤9223372036854775807) (hl:l.length≤9223372036854775807):Sem Tryd.prog 3 [s.d,.int .i64 hold,.sl 0 3 (l.map Arr.row),.int .i64 time,.int .i64 later] (.bool true):=by
 have hll:(l.map Arr.row).length=l.length:=List.length_map _
 have c1:=intake_sem s hold l hd hl
 have p1:=passed_sem s hold l time hd hl
 have p2:=passed_sem s hold l later hd hl
 by_cases he:askErr s hold l=0
 ·have hE:seriesFaultN s=0∧arrErr l=0∧outB hold 1 100000000=false:=by
   unfold askErr at he
   split at he
   ·omega
   ·split at he
    ·omega
    ·split at he
     ·omega
     ·split at he
      ·omega
      ·exact ⟨by omega,by omega,by simpa using (by assumption:¬ outB hold 1 100000000=true)⟩
  have hA:l.length≤1000∧arrs none l=0:=by
   have:=hE.2.1
   unfold arrErr at this
   split at this
   ·omega
   ·exact ⟨by omega,this⟩
  have hh:1≤hold∧hold≤100000000:=by
   have:=hE.2.2
   unfold outB at this
   simp at this
   omega
  have htm:=arrs_time hA.2
  obtain ⟨f1,f2,f3,f4⟩:=once (hold:=hold) hE.1 hA.2 htm hh
  have hv:intakeL s hold l=(runN s hold l 3000000000000000).out:=by unfold intakeL;rw [if_neg (by omega)]
  rw [hv,he] at c1
  generalize (runN s hold l 3000000000000000).out=v at c1 f1 f2 f4
  have hvl:(v.map Vd.row).length=v.length:=List.length_map _
  refine si [14,2000014,1000028,1000035,1000036,1000043,1000044,1000046] Tryd.func3 ?_
  repeat'((conv=>whnf);first|(try(first|apply eN|apply eI|apply eC);conv=>whnf);apply sD;(focus(try intro hc;have hc0:=hc;(try simp only[SPLT]at hc);try refine and0 ?_);first|exact gx c1|exact gx awake_sem|(refine gx (intake_sem ?_ ?_ ?_ ?_ ?_)<;>exact pre)|(refine gx (passed_sem ?_ ?_ ?_ ?_ ?_ ?_)<;>exact pre)|(refine gx (equalI_sem ?_ ?_ ?_ ?_)<;>exact pre)|exact sideG)|(first|apply dG|apply kB);kernel_rfl|apply rR|apply rE|apply rH| (apply cD<;>intro hb<;>(try simp only[SPLT]at hb)<;>try exact noB))
  all_goals try exact false
  ·exfalso
   simp at hb
   omega
  ·refine loop_go (M:=fun t=>mem t [14,2000014,1000028,1000035,1000036,1000043,1000044,1000046]) hT hM (fun k:Nat => [(46,.int .i64 k)]) (fun k=>k≤v.length) (fun k=>v.length - k) (0) ?_ ?_ ?_
   ·exact finF
   ·exact Nat.zero_le _
   ·intro k hk
    rcases hx:v[k]? with _|x
    ·have hm:=List.getElem?_eq_none_iff.1 hx
     by_cases e1:passedE s hold l time=0
     ·rw [e1] at p1
      by_cases e2:passedE s hold l later=0
      ·rw [e2] at p2
       have ht:0≤time∧time≤2000000000000000:=by
        unfold passedE at e1
        rw [if_neg (by omega)] at e1
        split at e1
        ·omega
        ·rename_i h
         unfold outB at h
         simp at h
         omega
       have q1:passedL s hold l time=numsOf (runN s hold l time).passed:=by unfold passedL;rw [if_neg (by omega)]
       have q2:passedL s hold l later=numsOf (runN s hold l later).passed:=by unfold passedL;rw [if_neg (by omega)]
       have hz:=sizeN_bd s hE.1
       have few:∀ t,(numsOf (runN s hold l t).passed).length≤1000:=fun t=>by
        have:=(IS.Ok.give (l:=l) (hold:=hold) t _ rfl (comeN_ok (s:=s) (hold:=hold) (l:=l) (by omega) hz.2 _ (upto_le t l))).few
        have hu:=upto_le t l
        unfold numsOf runN
        rw [List.length_map]
        omega
       have hpre:time≤later→∃ m,numsOf (runN s hold l later).passed=numsOf (runN s hold l time).passed++m:=fun h=>by
        obtain ⟨m,hm⟩:=f3 time later ht.1 h
        exact ⟨numsOf m,by rw [hm];unfold numsOf;rw [List.map_append]⟩
       have hin:∀ x ∈ numsOf (runN s hold l time).passed,∃ n:Nat,x=n∧n < l.length∧∃ u,v[n]?=some u∧0≤u.time∧u.time≤time:=fun x hx=>by
        obtain ⟨y,hy,rfl⟩:=List.mem_map.1 hx
        exact f4 time ht.1 ht.2 y hy
       have fa:=few time
       have fb:=few later
       rw [q1] at p1
       rw [q2] at p2
       generalize numsOf (runN s hold l time).passed=a at *
       generalize numsOf (runN s hold l later).passed=b at *
       have hal:(numRows a).length=a.length:=List.length_map _
       have hq:Sem Tryd.prog 9 [.sl 0 1 (numRows a),.sl 0 1 (List.drop (Int.toNat 0) (List.take ((numRows a).length:Int).toNat (numRows b)))] (.bool (a == b.take a.length)):=by
        rw [Int.toNat_natCast,hal,take_rows]
        exact equalI_sem a _ (by omega) (by rw [List.length_take];omega)
       have hbl:(numRows b).length=b.length:=List.length_map _
       have hwhy:time≤later→a.length≤b.length∧(a == b.take a.length)=true:=fun h=>by
        obtain ⟨m,rfl⟩:=hpre h
        rw [List.length_append,List.take_left]
        exact ⟨by omega,by simp⟩
       clear f2 f3 f4 few hpre htm
       generalize (a == b.take a.length)=eq at hq hwhy
       repeat'((conv=>whnf);first|(try(first|apply eN|apply eI|apply eC);conv=>whnf);apply sD;(focus(try intro hc;have hc0:=hc;(try simp only[SPLT]at hc);try refine and0 ?_);first|exact gx p1|exact gx p2|exact gx hq|(refine gx (intake_sem ?_ ?_ ?_ ?_ ?_)<;>exact pre)|(refine gx (awake_sem )<;>exact pre)|(refine gx (passed_sem ?_ ?_ ?_ ?_ ?_ ?_)<;>exact pre)|(refine gx (equalI_sem ?_ ?_ ?_ ?_)<;>exact pre)|exact sideG)|(first|apply dG|apply kB);kernel_rfl|apply rR|apply rE|apply rH| (apply cD<;>intro hb<;>(try simp only[SPLT]at hb)<;>try exact noB))
       all_goals try exact false
       ·exfalso
        obtain ⟨w1,w2⟩:=hwhy hb.1
        simp [w2] at hb
        omega
       ·refine loop_go (M:=fun t=>mem t [14,2000014,1000028,1000035,1000036,1000043,1000044,1000046]) hT hM (fun k:Nat => [(133,.int .i64 k)]) (fun k=>k≤a.length) (fun k=>a.length - k) (0) ?_ ?_ ?_
        ·exact finF
        ·exact Nat.zero_le _
        ·intro k hk
         clear hq hwhy p1 p2 c1
         rcases hx2:a[k]? with _|n
         ·have hm2:=List.getElem?_eq_none_iff.1 hx2
          repeat'((conv=>whnf);first|(try(first|apply eN|apply eI|apply eC);conv=>whnf);apply sD;(focus(try intro hc;have hc0:=hc;(try simp only[SPLT]at hc);try refine and0 ?_);first|(refine gx (intake_sem ?_ ?_ ?_ ?_ ?_)<;>exact pre)|(refine gx (awake_sem )<;>exact pre)|(refine gx (passed_sem ?_ ?_ ?_ ?_ ?_ ?_)<;>exact pre)|(refine gx (equalI_sem ?_ ?_ ?_ ?_)<;>exact pre)|exact sideG)|(first|apply dG|apply kB);kernel_rfl|apply rR|apply rE|apply rH| (apply cD<;>intro hb<;>(try simp only[SPLT]at hb)<;>try exact noB))
          all_goals try exact false
          exact finR
         ·have hlt2:=(gLt hx2)
          obtain ⟨m,rfl,hm2,u,hu,u1,u2⟩:=hin n (gMem hx2)
          have hul:=(gLt hu)
          repeat'((conv=>whnf);first|(try(first|apply eN|apply eI|apply eC);conv=>whnf);apply sD;(focus(try intro hc;have hc0:=hc;(try simp only[SPLT]at hc);try refine and0 ?_);first|(exact idx_eq (f:=fun n => [D.int .i64 n]) hx2 rfl)|(exact idx_eq (f:=Vd.row) hu rfl)|(refine gx (intake_sem ?_ ?_ ?_ ?_ ?_)<;>exact pre)|(refine gx (awake_sem )<;>exact pre)|(refine gx (passed_sem ?_ ?_ ?_ ?_ ?_ ?_)<;>exact pre)|(refine gx (equalI_sem ?_ ?_ ?_ ?_)<;>exact pre)|exact sideG)|(first|apply dG|apply kB);kernel_rfl|apply rR|apply rE|apply rH| (apply cD<;>intro hb<;>(try simp only[SPLT]at hb)<;>try exact noB))
          all_goals try exact false
          refine ⟨k+1,by omega,by omega,?_⟩
          exact finF
      ·repeat'((conv=>whnf);first|(try(first|apply eN|apply eI|apply eC);conv=>whnf);apply sD;(focus(try intro hc;have hc0:=hc;(try simp only[SPLT]at hc);try refine and0 ?_);first|exact gx p1|exact gx p2|(refine gx (intake_sem ?_ ?_ ?_ ?_ ?_)<;>exact pre)|(refine gx (awake_sem )<;>exact pre)|(refine gx (passed_sem ?_ ?_ ?_ ?_ ?_ ?_)<;>exact pre)|(refine gx (equalI_sem ?_ ?_ ?_ ?_)<;>exact pre)|exact sideG)|(first|apply dG|apply kB);kernel_rfl|apply rR|apply rE|apply rH| (apply cD<;>intro hb<;>(try simp only[SPLT]at hb)<;>try exact noB))
       all_goals try exact false
       exact finR
     ·repeat'((conv=>whnf);first|(try(first|apply eN|apply eI|apply eC);conv=>whnf);apply sD;(focus(try intro hc;have hc0:=hc;(try simp only[SPLT]at hc);try refine and0 ?_);first|exact gx p1|exact gx p2|(refine gx (intake_sem ?_ ?_ ?_ ?_ ?_)<;>exact pre)|(refine gx (awake_sem )<;>exact pre)|(refine gx (passed_sem ?_ ?_ ?_ ?_ ?_ ?_)<;>exact pre)|(refine gx (equalI_sem ?_ ?_ ?_ ?_)<;>exact pre)|exact sideG)|(first|apply dG|apply kB);kernel_rfl|apply rR|apply rE|apply rH| (apply cD<;>intro hb<;>(try simp only[SPLT]at hb)<;>try exact noB))
      all_goals try exact false
      exact finR
    ·have hlt:=(gLt hx)
     obtain ⟨a,ha⟩:∃ a,l[k]?=some a:=⟨_,List.getElem?_eq_getElem (by omega)⟩
     have hf:=f2 k x a hx ha
     have hta:=htm a (gMem ha)
     clear f2 f3 f4 p1 p2 c1
     repeat'((conv=>whnf);first|(try(first|apply eN|apply eI|apply eC);conv=>whnf);apply sD;(focus(try intro hc;have hc0:=hc;(try simp only[SPLT]at hc);try refine and0 ?_);first|(exact idx_eq (f:=Vd.row) hx rfl)|(exact idx_eq (f:=Arr.row) ha rfl)|(refine gx (intake_sem ?_ ?_ ?_ ?_ ?_)<;>exact pre)|(refine gx (awake_sem )<;>exact pre)|(refine gx (passed_sem ?_ ?_ ?_ ?_ ?_ ?_)<;>exact pre)|(refine gx (equalI_sem ?_ ?_ ?_ ?_)<;>exact pre)|exact sideG)|(first|apply dG|apply kB);kernel_rfl|apply rR|apply rE|apply rH| (apply cD<;>intro hb<;>(try simp only[SPLT]at hb)<;>try exact noB))
     all_goals try exact false
     all_goals (refine ⟨k+1,by omega,by omega,?_⟩)
     all_goals ((conv=>whnf);(refine ⟨?_,by rfl⟩);(repeat' ((conv=>whnf);first|exact endF|exact endF2|with_reducible apply dC)))
 ·have hv:intakeL s hold l = []:=by unfold intakeL;rw [if_pos he]
  rw [hv] at c1
  generalize askErr s hold l=e at c1 he
  refine si [14,2000014,1000028,1000035,1000036,1000043,1000044,1000046] Tryd.func3 ?_
  repeat'((conv=>whnf);first|(try(first|apply eN|apply eI|apply eC);conv=>whnf);apply sD;(focus(try intro hc;have hc0:=hc;(try simp only[SPLT]at hc);try refine and0 ?_);first|exact gx c1|exact gx awake_sem|(refine gx (intake_sem ?_ ?_ ?_ ?_ ?_)<;>exact pre)|(refine gx (passed_sem ?_ ?_ ?_ ?_ ?_ ?_)<;>exact pre)|(refine gx (equalI_sem ?_ ?_ ?_ ?_)<;>exact pre)|exact sideG)|(first|apply dG|apply kB);kernel_rfl|apply rR|apply rE|apply rH| (apply cD<;>intro hb<;>(try simp only[SPLT]at hb)<;>try exact noB))
  all_goals try exact false
  exact finR
end Go.Proofs.YtalejlbiccdfjaaDoor
