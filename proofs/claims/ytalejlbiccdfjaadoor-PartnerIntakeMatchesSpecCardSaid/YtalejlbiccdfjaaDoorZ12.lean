/- Arrivals: what is asked of them (walk of the program). Arrivals: the reference's walks that need no object of their own. slices.Delete of one element, where elements are two numbers: by hand. Arrivals: the reference's object, its small methods (walks). Arrivals: the reference follows and gives up (walks). Arrivals: the reference gives up waiting (walk). slices.Clone of what is held: the walk of the slice that is empty and not nil, the shelf's law for the others. -/
import Derived.Test.YtalejlbiccdfjaaDoorZ10
import Derived.Test.YtalejlbiccdfjaaDoorZ11
import Derived.Test.YtalejlbiccdfjaaDoorProg
import Derived.Shelf.RegionOpenPlain
import Derived.WalkKit
import Derived.Deep.LoopGhost
import Derived.Deep.RegionLaw
import Derived.Lib.Walk
import Derived.Sort.WalkB12
import Derived.Lib.SliceRun
import Derived.Lib.SlicesDelete
import Derived.Laws.AppendOwn
import Derived.Sort.Row
import Derived.Ground.SlgnProg
import Derived.Shelf.SlicesE.Clone
namespace Go.Proofs.YtalejlbiccdfjaaDoor
set_option linter.unusedSimpArgs false
set_option linter.unusedVariables false
open Go.RowKit
set_option maxRecDepth 100000
set_option maxHeartbeats 4000000
theorem sem_vals {P:Program} {f:Nat} [e:Enters P f] {ds:List D} {us:List Value} {d:D} {v:Value} (hv:valsOf ds=some us) (hc:d.calm=true) (hz:∀ lim w,Fz lim w v d) (h:∀ w,Calls P f us.toArray w fun e w'=>e=.returned v∧Ext w w'):Sem P f ds d:=
 ⟨e,hc,fun S w vs hw hl hr=>by
  obtain rfl:=vals_eq (q:=fun i=>.slot i) hv hl hr
  exact (h w).mono fun e w' ⟨he,hx⟩=>⟨v,S,he,(PT.ext' hw hx).wf,(PT.ext' hw hx).trans,.fz (hz _ _)⟩⟩
theorem dropWhile_nil {α:Type} (p:α→Bool) (l:List α):l.dropWhile p = []↔l.all p=true:=by
 induction l with
 |nil=>simp
 |cons a l ih=>simp only [List.dropWhile_cons,List.all_cons];split<;>simp_all
theorem trimS_nil_iff (l cs:List UInt8):Lib.trimS l cs = []↔l.all (cs.contains ·)=true:=by
 unfold Lib.trimS Lib.trimLeftS
 rw [dropWhile_nil]
 constructor
 ·intro h
  unfold Lib.trimRightS at h
  rw [List.all_reverse] at h
  have key:∀ m:List UInt8,(m.dropWhile (cs.contains ·)).all (cs.contains ·)=true→m.all (cs.contains ·)=true:=by
   intro m
   induction m with
   |nil=>simp
   |cons a m ih=>
    intro h
    simp only [List.dropWhile_cons] at h
    split at h
    ·rename_i ha
     rw [List.all_cons,ha,ih h]
     rfl
    ·exact h
  have:=key l.reverse h
  rwa [List.all_reverse] at this
 ·intro h
  unfold Lib.trimRightS
  rw [(dropWhile_nil _ _).2 (by rw [List.all_reverse];exact h)]
  rfl
theorem trim_sem (s cs:Str) (hs:s.length≤9223372036854775807) (hcs:cs.length < 4294967281) (ha:cs.all (fun b=>decide (b.toNat < 128))=true):Sem Tryd.prog 41 [.str s,.str cs] (.str (Lib.trimS s cs)):=
 sem_vals (us := [.string ⟨s.toArray⟩,.string ⟨cs.toArray⟩]) (v:=.string ⟨(Lib.trimS s cs).toArray⟩) rfl rfl (fun _ _=>.str _) fun w=>
  Any.strings_Trim_laid Tryd.lays160 (by kernel_rfl) ⟨s.toArray⟩ ⟨cs.toArray⟩ w (by show s.toArray.size≤_;simp;omega) (by show cs.toArray.size < _;simpa using hcs) (ascii_of_all (by simpa using ha))
def hexTxt:Str := [48,49,50,51,52,53,54,55,56,57,97,98,99,100,101,102]
theorem hexTxt_contains (c:UInt8):hexTxt.contains c=hexByte c:=by
 have:∀ n:Fin 256,hexTxt.contains (UInt8.ofNat n.val)=hexByte (UInt8.ofNat n.val):=by decide +kernel
 have h:=this ⟨c.toNat,c.toNat_lt⟩
 simpa using h
theorem trim_hex (s:Str):(Lib.trimS s hexTxt == [])=s.all hexByte:=by
 have h1:=trimS_nil_iff s hexTxt
 have h2:s.all (hexTxt.contains ·)=s.all hexByte:=by
  congr 1
  exact funext hexTxt_contains
 rw [h2] at h1
 rw [Bool.eq_iff_iff,beq_iff_eq,h1]
theorem isDigest_sem (s:Str) (hs:s.length≤9223372036854775807):Sem Tryd.prog 24 [.str s] (.bool (isDig s)):=by
 have e:=trim_hex s
 refine si [1000028,1000035,1000036,1000043,1000044,1000046] Tryd.func24 ?_
 repeat'((conv=>whnf);first|(try(first|apply eN|apply eC);conv=>whnf);apply sD;(focus(try intro hc;have hc0:=hc;(try simp only[SPLT]at hc);try refine and0 ?_);first|(refine gx (trim_sem s hexTxt hs (by decide) (by decide))<;>exact pre)|exact sideG)|apply rR|apply rE|apply rH| (apply cD<;>intro hb<;>(try simp only[SPLT]at hb)<;>try exact noB))
 all_goals try exact false
 repeat' ((conv=>whnf);first|exact endR|with_reducible first|apply And.intro|apply oR|apply oN|apply dC)
 all_goals (conv=>whnf)
 refine rle_bool ?_
 unfold isDig
 rw [← e,Bool.eq_iff_iff]
 simp
 omega
theorem isMoment_sem (n:Int):Sem Tryd.prog 23 [.int .i64 n] (.bool (momB n)):=by
 have o:=outside_sem n 0 1000000000000000
 unfold momB
 refine si [1000028,1000035,1000036,1000043,1000044,1000046] Tryd.func23 ?_
 repeat'((conv=>whnf);first|(try(first|apply eN|apply eC);conv=>whnf);apply sD;(focus first|exact gx o|(refine gx (outside_sem ?_ ?_ ?_)<;>exact pre)|exact side)|apply rR|apply rE|apply rH| (apply cD<;>intro hb<;>(try simp only[SPLT]at hb)<;>try exact noB))
 all_goals try exact false
 exact finR
def prevT (l:List Arr):Nat→Option Int
 |0=>none
 |k+1=>(l[k]?).map Arr.time
theorem arrs_at {l:List Arr} {k:Nat} {a:Arr} (p:Option Int) (h:l[k]?=some a):arrs p (l.drop k)=if arrF p a ≠ 0 then arrF p a else arrs (some a.time) (l.drop (k+1)):=by
 rw [List.drop_eq_getElem?_toList_append,h]
 rfl
theorem checkArrivals_sem (l:List Arr) (hd:∀ a ∈ l,a.dig.length≤9223372036854775807) (hl:l.length≤9223372036854775807):Sem Tryd.prog 11 [.sl 0 3 (l.map Arr.row)] (.int .i64 (arrErr l)):=by
 have hll:(l.map Arr.row).length=l.length:=List.length_map _
 unfold arrErr
 by_cases hbig:1000 < l.length
 ·refine si [1000028,1000035,1000036,1000043,1000044,1000046] Tryd.func11 ?_
  repeat'((conv=>whnf);first|(try(first|apply eN|apply eI|apply eC);conv=>whnf);apply sD;(focus(try intro hc;have hc0:=hc;(try simp only[SPLT]at hc);try refine and0 ?_);first|(refine gx (isMoment_sem ?_)<;>exact pre)|(refine gx (isDigest_sem ?_ ?_)<;>exact pre)|exact sideG)|(first|apply dG|apply kB);kernel_rfl|apply rR|apply rE|apply rH| (apply cD<;>intro hb<;>(try simp only[SPLT]at hb)<;>try exact noB))
  all_goals try exact false
  repeat' ((conv=>whnf);first|exact endR|with_reducible first|apply And.intro|apply oR|apply oN|apply dC)
  all_goals (conv=>whnf)
  exact rle_int (by rw [if_pos hbig])
 ·rw [if_neg hbig]
  generalize hr:arrs none l=r
  refine si [4,2000004,1000028,1000035,1000036,1000043,1000044,1000046] Tryd.func11 ?_
  repeat'((conv=>whnf);first|(try(first|apply eN|apply eI|apply eC);conv=>whnf);apply sD;(focus(try intro hc;have hc0:=hc;(try simp only[SPLT]at hc);try refine and0 ?_);first|(refine gx (isMoment_sem ?_)<;>exact pre)|(refine gx (isDigest_sem ?_ ?_)<;>exact pre)|exact sideG)|(first|apply dG|apply kB);kernel_rfl|apply rR|apply rE|apply rH| (apply cD<;>intro hb<;>(try simp only[SPLT]at hb)<;>try exact noB))
  all_goals try exact false
  refine loop_go (M:=fun t=>mem t [4,2000004,1000028,1000035,1000036,1000043,1000044,1000046]) hT hM (fun k:Nat => [(10,.int .i64 k)]) (fun k=>k≤l.length∧arrs (prevT l k) (l.drop k)=r) (fun k=>l.length - k) (0) ?_ ?_ ?_
  ·exact finF
  ·exact ⟨by omega,hr⟩
  ·rintro k ⟨hk,hv⟩
   rcases hx:l[k]? with _|a
   ·have hm:=List.getElem?_eq_none_iff.1 hx
    rw [List.drop_of_length_le hm] at hv
    repeat'((conv=>whnf);first|(try(first|apply eN|apply eI|apply eC);conv=>whnf);apply sD;(focus(try intro hc;have hc0:=hc;(try simp only[SPLT]at hc);try refine and0 ?_);first|(refine gx (isMoment_sem ?_)<;>exact pre)|(refine gx (isDigest_sem ?_ ?_)<;>exact pre)|exact sideG)|(first|apply dG|apply kB);kernel_rfl|apply rR|apply rE|apply rH| (apply cD<;>intro hb<;>(try simp only[SPLT]at hb)<;>try exact noB))
    all_goals try exact false
    repeat' ((conv=>whnf);first|exact endR|with_reducible first|apply And.intro|apply oR|apply oN|apply dC)
    all_goals (conv=>whnf)
    exact rle_int hv
   ·have hlt:=(gLt hx)
    have c1:=isMoment_sem a.time
    have c2:=isDigest_sem a.dig (hd a (gMem hx))
    rw [arrs_at _ hx] at hv
    have hnx:prevT l (k+1)=some a.time:=by simp [prevT,hx]
    cases hmb:momB a.time with
    |false=>
     have e:arrF (prevT l k) a=1:=by unfold arrF;rw [if_pos hmb]
     rw [e,if_pos (by decide)] at hv
     subst hv
     rw [hmb] at c1
     repeat'((conv=>whnf);first|(try(first|apply eN|apply eI|apply eC);conv=>whnf);apply sD;(focus(try intro hc;have hc0:=hc;(try simp only[SPLT]at hc);try refine and0 ?_);first|(exact idx_eq (f:=Arr.row) hx rfl)|exact gx c1|(refine gx (isMoment_sem ?_)<;>exact pre)|(refine gx (isDigest_sem ?_ ?_)<;>exact pre)|exact sideG)|(first|apply dG|apply kB);kernel_rfl|apply rR|apply rE|apply rH| (apply cD<;>intro hb<;>(try simp only[SPLT]at hb)<;>try exact noB))
     all_goals try exact false
     exact finR
    |true=>
     rw [hmb] at c1
     cases hdg:isDig a.dig with
     |false=>
      have e:arrF (prevT l k) a=3:=by unfold arrF;rw [if_neg (by rw [hmb];simp),if_pos hdg]
      rw [e,if_pos (by decide)] at hv
      subst hv
      rw [hdg] at c2
      repeat'((conv=>whnf);first|(try(first|apply eN|apply eI|apply eC);conv=>whnf);apply sD;(focus(try intro hc;have hc0:=hc;(try simp only[SPLT]at hc);try refine and0 ?_);first|(exact idx_eq (f:=Arr.row) hx rfl)|exact gx c1|exact gx c2|(refine gx (isMoment_sem ?_)<;>exact pre)|(refine gx (isDigest_sem ?_ ?_)<;>exact pre)|exact sideG)|(first|apply dG|apply kB);kernel_rfl|apply rR|apply rE|apply rH| (apply cD<;>intro hb<;>(try simp only[SPLT]at hb)<;>try exact noB))
      all_goals try exact false
      exact finR
     |true=>
      rw [hdg] at c2
      cases k with
      |zero=>
       have e:arrF (prevT l 0) a=0:=by unfold arrF;rw [if_neg (by rw [hmb];simp),if_neg (by rw [hdg];simp)];rfl
       rw [e,if_neg (by decide),← hnx] at hv
       repeat'((conv=>whnf);first|(try(first|apply eN|apply eI|apply eC);conv=>whnf);apply sD;(focus(try intro hc;have hc0:=hc;(try simp only[SPLT]at hc);try refine and0 ?_);first|(exact idx_eq (f:=Arr.row) hx rfl)|(exact show 0≤_∧_=some [D.int .i64 0,D.int .i64 0,D.str []] from absurd hc0 (by simp))|exact gx c1|exact gx c2|(refine gx (isMoment_sem ?_)<;>exact pre)|(refine gx (isDigest_sem ?_ ?_)<;>exact pre)|exact sideG)|(first|apply dG|apply kB);kernel_rfl|apply rR|apply rE|apply rH| (apply cD<;>intro hb<;>(try simp only[SPLT]at hb)<;>try exact noB))
       all_goals try exact false
       refine ⟨1,⟨by omega,hv⟩,by omega,?_⟩
       exact finF
      |succ k=>
       obtain ⟨b,hb0⟩:∃ b,l[k]?=some b:=⟨_,List.getElem?_eq_getElem (by omega)⟩
       have hp:prevT l (k+1)=some b.time:=by simp [prevT,hb0]
       by_cases hlt2:a.time < b.time
       ·have e:arrF (prevT l (k+1)) a=8:=by unfold arrF;rw [if_neg (by rw [hmb];simp),if_neg (by rw [hdg];simp),hp];exact if_pos hlt2
        rw [e,if_pos (by decide)] at hv
        subst hv
        repeat'((conv=>whnf);first|(try(first|apply eN|apply eI|apply eC);conv=>whnf);apply sD;(focus(try intro hc;have hc0:=hc;(try simp only[SPLT]at hc);try refine and0 ?_);first|(exact idx_eq (f:=Arr.row) hx rfl)|(exact idx_eq (f:=Arr.row) hb0 (by omega))|exact gx c1|exact gx c2|(refine gx (isMoment_sem ?_)<;>exact pre)|(refine gx (isDigest_sem ?_ ?_)<;>exact pre)|exact sideG)|(first|apply dG|apply kB);kernel_rfl|apply rR|apply rE|apply rH| (apply cD<;>intro hb<;>(try simp only[SPLT]at hb)<;>try exact noB))
        all_goals try exact false
        exact finR
       ·have e:arrF (prevT l (k+1)) a=0:=by unfold arrF;rw [if_neg (by rw [hmb];simp),if_neg (by rw [hdg];simp),hp];exact if_neg hlt2
        rw [e,if_neg (by decide),← hnx] at hv
        repeat'((conv=>whnf);first|(try(first|apply eN|apply eI|apply eC);conv=>whnf);apply sD;(focus(try intro hc;have hc0:=hc;(try simp only[SPLT]at hc);try refine and0 ?_);first|(exact idx_eq (f:=Arr.row) hx rfl)|(exact idx_eq (f:=Arr.row) hb0 (by omega))|exact gx c1|exact gx c2|(refine gx (isMoment_sem ?_)<;>exact pre)|(refine gx (isDigest_sem ?_ ?_)<;>exact pre)|exact sideG)|(first|apply dG|apply kB);kernel_rfl|apply rR|apply rE|apply rH| (apply cD<;>intro hb<;>(try simp only[SPLT]at hb)<;>try exact noB))
        all_goals try exact false
        refine ⟨k+1+1,⟨by omega,hv⟩,by omega,?_⟩
        exact finF
theorem within8_sem (n a b:Int):Sem Tryd.prog 25 [.int .i64 n,.int .i64 a,.int .i64 b] (.bool (!outB n a b)):=by
 refine si [1000028,1000035,1000036,1000043,1000044,1000046] Tryd.func25 ?_
 repeat'((conv=>whnf);first|(try(first|apply eN);conv=>whnf);apply sD;(focus(try intro hc;have hc0:=hc;(try simp only[SPLT]at hc);try refine and0 ?_);first|exact sideG)|apply rR|apply rE|apply rH| (apply cD<;>intro hb<;>(try simp only[SPLT]at hb)<;>try exact noB))
 all_goals try exact false
 repeat' ((conv=>whnf);first|exact endR|with_reducible first|apply And.intro|apply oR|apply oN|apply dC)
 all_goals (conv=>whnf)
 all_goals (refine rle_bool ?_;rw [Bool.eq_iff_iff];simp [outB])
theorem isOf8_sem (s:Ser) (n:Int):Sem Tryd.prog 38 [s.d,.int .i64 n] (.bool (isOfB s n)):=by
 have w:Sem Tryd.prog 25 [.int .i64 n,.int .i64 s.first,.int .i64 s.last] (.bool (isOfB s n)):=within8_sem n s.first s.last
 generalize isOfB s n=b at w
 refine si [1000028,1000035,1000036,1000043,1000044,1000046] Tryd.func38 ?_
 repeat'((conv=>whnf);first|(try(first|apply eN|apply eI|apply eC);conv=>whnf);apply sD;(focus first|exact gx w|(refine gx (within8_sem ?_ ?_ ?_)<;>exact pre)|exact side)|apply rR|apply rE|apply rH| (apply cD<;>intro hb<;>(try simp only[SPLT]at hb)<;>try exact noB))
 all_goals try exact false
 exact finR
theorem size8_sem (s:Ser) (hok:seriesFaultN s=0):Sem Tryd.prog 29 [s.d] (.int .i64 (sizeN s)):=by
 have hs:=series_ok s hok
 unfold sizeN
 refine si [1000028,1000035,1000036,1000043,1000044,1000046] Tryd.func29 ?_
 repeat'((conv=>whnf);first|(try(first|apply eN|apply eI);conv=>whnf);apply sD;(focus first|exact side)|apply rR|apply rE|apply rH| (apply cD<;>intro hb<;>(try simp only[SPLT]at hb)<;>try exact noB))
 all_goals try exact false
 exact finR
theorem checkSeries8_sem (s:Ser):Sem Tryd.prog 37 [s.d] (.int .i64 (seriesFaultN s)):=by
 have w1:=within8_sem s.first 0 999999999999999
 have w2:=within8_sem s.last (s.first+1) 999999999999999
 have hf:seriesFaultN s=if outB s.first 0 999999999999999=true∨outB s.last (s.first+1) 999999999999999=true then 1 else 0:=by
  unfold seriesFaultN
  cases outB s.first 0 999999999999999<;>cases outB s.last (s.first+1) 999999999999999<;>rfl
 rw [hf]
 have hb1:outB s.first 0 999999999999999=false→0≤s.first∧s.first≤999999999999999:=fun h=>by
  unfold outB at h
  simp at h
  omega
 cases h1:outB s.first 0 999999999999999 with
 |true=>
  rw [h1] at w1
  have w3:=within8_sem s.last (IntKind.i64.wrap (s.first+1)) 999999999999999
  refine si [1000028,1000035,1000036,1000043,1000044,1000046] Tryd.func37 ?_
  repeat'((conv=>whnf);first|(try(first|apply eN|apply eI|apply eC);conv=>whnf);apply sD;(focus(try intro hc;have hc0:=hc;(try simp only[SPLT]at hc);try refine and0 ?_);first|exact gx w1|exact gx w3|(refine gx (within8_sem ?_ ?_ ?_)<;>exact pre)|exact sideG)|apply rR|apply rE|apply rH| (apply cD<;>intro hb<;>(try simp only[SPLT]at hb)<;>try exact noB))
  all_goals try exact false
  exact finR
 |false=>
  have hb:=hb1 h1
  rw [h1] at w1
  cases h2:outB s.last (s.first+1) 999999999999999 with
  |true=>
   rw [h2] at w2
   refine si [1000028,1000035,1000036,1000043,1000044,1000046] Tryd.func37 ?_
   repeat'((conv=>whnf);first|(try(first|apply eN|apply eI|apply eC);conv=>whnf);apply sD;(focus(try intro hc;have hc0:=hc;(try simp only[SPLT]at hc);try refine and0 ?_);first|exact gx w1|exact gx w2|(refine gx (within8_sem ?_ ?_ ?_)<;>exact pre)|exact sideG)|apply rR|apply rE|apply rH| (apply cD<;>intro hb<;>(try simp only[SPLT]at hb)<;>try exact noB))
   all_goals try exact false
   exact finR
  |false=>
   rw [h2] at w2
   refine si [1000028,1000035,1000036,1000043,1000044,1000046] Tryd.func37 ?_
   repeat'((conv=>whnf);first|(try(first|apply eN|apply eI|apply eC);conv=>whnf);apply sD;(focus(try intro hc;have hc0:=hc;(try simp only[SPLT]at hc);try refine and0 ?_);first|exact gx w1|exact gx w2|(refine gx (within8_sem ?_ ?_ ?_)<;>exact pre)|exact sideG)|apply rR|apply rE|apply rH| (apply cD<;>intro hb<;>(try simp only[SPLT]at hb)<;>try exact noB))
   all_goals try exact false
   exact finR
theorem isDigest8_sem (s:Str) (hs:s.length≤9223372036854775807):Sem Tryd.prog 26 [.str s] (.bool (isDig s)):=by
 unfold isDig
 by_cases h16:s.length=16
 ·rw [decide_eq_true h16,Bool.true_and]
  refine si [1000028,1000035,1000036,1000043,1000044,1000046] Tryd.func26 ?_
  repeat'((conv=>whnf);first|(try(first|apply eN|apply eC);conv=>whnf);apply sD;(focus(try intro hc;have hc0:=hc;(try simp only[SPLT]at hc);try refine and0 ?_);first|exact sideG)|apply rR|apply rE|apply rH| (apply cD<;>intro hb<;>(try simp only[SPLT]at hb)<;>try exact noB))
  all_goals try exact false
  refine loop_go (M:=fun t=>mem t [1000028,1000035,1000036,1000043,1000044,1000046]) hT hM (fun k:Nat => [(9,.int .i64 k)]) (fun k=>k≤s.length∧(s.take k).all hexByte=true) (fun k=>s.length - k) (0) ?_ ?_ ?_
  ·exact finF
  ·exact ⟨by omega,rfl⟩
  ·rintro k ⟨hk,hall⟩
   rcases hx:s[k]? with _|x
   ·have hk':k=s.length:=by have:=List.getElem?_eq_none_iff.1 hx;omega
    subst hk'
    rw [List.take_length] at hall
    repeat'((conv=>whnf);first|(try(first|apply eN|apply eC);conv=>whnf);apply sD;(focus(try intro hc;have hc0:=hc;(try simp only[SPLT]at hc);try refine and0 ?_);first|exact sideG)|apply rR|apply rE|apply rH| (apply cD<;>intro hb<;>(try simp only[SPLT]at hb)<;>try exact noB))
    all_goals try exact false
    repeat' ((conv=>whnf);first|exact endR|with_reducible first|apply And.intro|apply oR|apply oN|apply dC)
    all_goals (conv=>whnf)
    exact rle_bool hall.symm
   ·have hlt:=(gLt hx)
    repeat'((conv=>whnf);first|(try(first|apply eN|apply eC);conv=>whnf);apply sD;(focus(try intro hc;have hc0:=hc;(try simp only[SPLT]at hc);try refine and0 ?_);first|exact sideG)|apply rR|apply rE|apply rH| (apply cD<;>intro hb<;>(try simp only[SPLT]at hb)<;>try exact noB))
    all_goals try exact false
    ·repeat' ((conv=>whnf);first|exact endR|with_reducible first|apply And.intro|apply oR|apply oN|apply dC)
     all_goals (conv=>whnf)
     refine rle_bool (Eq.symm ?_)
     simp [hx] at hb
     have:hexByte x=false:=by
      simp [hexByte]
      omega
     rw [List.all_eq_false]
     exact ⟨x,gMem hx,by simp [this]⟩
    ·refine ⟨k+1,⟨by omega,?_⟩,by omega,?_⟩
     ·simp [hx] at hb
      rw [take_at hx,List.all_append,hall]
      have:hexByte x=true:=by
       simp [hexByte]
       omega
      simp [this]
     ·exact finF
 ·rw [decide_eq_false h16,Bool.false_and]
  refine si [1000028,1000035,1000036,1000043,1000044,1000046] Tryd.func26 ?_
  repeat'((conv=>whnf);first|(try(first|apply eN|apply eC);conv=>whnf);apply sD;(focus(try intro hc;have hc0:=hc;(try simp only[SPLT]at hc);try refine and0 ?_);first|exact sideG)|apply rR|apply rE|apply rH| (apply cD<;>intro hb<;>(try simp only[SPLT]at hb)<;>try exact noB))
  all_goals try exact false
  exact finR
theorem checkArrivals8_sem (l:List Arr) (hd:∀ a ∈ l,a.dig.length≤9223372036854775807) (hl:l.length≤9223372036854775807):Sem Tryd.prog 12 [.sl 0 3 (l.map Arr.row)] (.int .i64 (arrErr l)):=by
 have hll:(l.map Arr.row).length=l.length:=List.length_map _
 unfold arrErr
 by_cases hbig:1000 < l.length
 ·refine si [1000028,1000035,1000036,1000043,1000044,1000046] Tryd.func12 ?_
  repeat'((conv=>whnf);first|(try(first|apply eN|apply eI|apply eC);conv=>whnf);apply sD;(focus(try intro hc;have hc0:=hc;(try simp only[SPLT]at hc);try refine and0 ?_);first|(refine gx (within8_sem ?_ ?_ ?_)<;>exact pre)|(refine gx (isDigest8_sem ?_ ?_)<;>exact pre)|exact sideG)|(first|apply dG|apply kB);kernel_rfl|apply rR|apply rE|apply rH| (apply cD<;>intro hb<;>(try simp only[SPLT]at hb)<;>try exact noB))
  all_goals try exact false
  repeat' ((conv=>whnf);first|exact endR|with_reducible first|apply And.intro|apply oR|apply oN|apply dC)
  all_goals (conv=>whnf)
  exact rle_int (by rw [if_pos hbig])
 ·rw [if_neg hbig]
  generalize hr:arrs none l=r
  refine si [4,2000004,1000028,1000035,1000036,1000043,1000044,1000046] Tryd.func12 ?_
  repeat'((conv=>whnf);first|(try(first|apply eN|apply eI|apply eC);conv=>whnf);apply sD;(focus(try intro hc;have hc0:=hc;(try simp only[SPLT]at hc);try refine and0 ?_);first|(refine gx (within8_sem ?_ ?_ ?_)<;>exact pre)|(refine gx (isDigest8_sem ?_ ?_)<;>exact pre)|exact sideG)|(first|apply dG|apply kB);kernel_rfl|apply rR|apply rE|apply rH| (apply cD<;>intro hb<;>(try simp only[SPLT]at hb)<;>try exact noB))
  all_goals try exact false
  refine loop_go (M:=fun t=>mem t [4,2000004,1000028,1000035,1000036,1000043,1000044,1000046]) hT hM (fun k:Nat => [(10,.int .i64 k)]) (fun k=>k≤l.length∧arrs (prevT l k) (l.drop k)=r) (fun k=>l.length - k) (0) ?_ ?_ ?_
  ·exact finF
  ·exact ⟨by omega,hr⟩
  ·rintro k ⟨hk,hv⟩
   rcases hx:l[k]? with _|a
   ·have hm:=List.getElem?_eq_none_iff.1 hx
    rw [List.drop_of_length_le hm] at hv
    repeat'((conv=>whnf);first|(try(first|apply eN|apply eI|apply eC);conv=>whnf);apply sD;(focus(try intro hc;have hc0:=hc;(try simp only[SPLT]at hc);try refine and0 ?_);first|(refine gx (within8_sem ?_ ?_ ?_)<;>exact pre)|(refine gx (isDigest8_sem ?_ ?_)<;>exact pre)|exact sideG)|(first|apply dG|apply kB);kernel_rfl|apply rR|apply rE|apply rH| (apply cD<;>intro hb<;>(try simp only[SPLT]at hb)<;>try exact noB))
    all_goals try exact false
    repeat' ((conv=>whnf);first|exact endR|with_reducible first|apply And.intro|apply oR|apply oN|apply dC)
    all_goals (conv=>whnf)
    exact rle_int hv
   ·have hlt:=(gLt hx)
    have c1:Sem Tryd.prog 25 [.int .i64 a.time,.int .i64 0,.int .i64 1000000000000000] (.bool (momB a.time)):=within8_sem a.time 0 1000000000000000
    have c2:=isDigest8_sem a.dig (hd a (gMem hx))
    rw [arrs_at _ hx] at hv
    have hnx:prevT l (k+1)=some a.time:=by simp [prevT,hx]
    cases hmb:momB a.time with
    |false=>
     have e:arrF (prevT l k) a=1:=by unfold arrF;rw [if_pos hmb]
     rw [e,if_pos (by decide)] at hv
     subst hv
     rw [hmb] at c1
     repeat'((conv=>whnf);first|(try(first|apply eN|apply eI|apply eC);conv=>whnf);apply sD;(focus(try intro hc;have hc0:=hc;(try simp only[SPLT]at hc);try refine and0 ?_);first|(exact idx_eq (f:=Arr.row) hx rfl)|exact gx c1|(refine gx (within8_sem ?_ ?_ ?_)<;>exact pre)|(refine gx (isDigest8_sem ?_ ?_)<;>exact pre)|exact sideG)|(first|apply dG|apply kB);kernel_rfl|apply rR|apply rE|apply rH| (apply cD<;>intro hb<;>(try simp only[SPLT]at hb)<;>try exact noB))
     all_goals try exact false
     exact finR
    |true=>
     rw [hmb] at c1
     cases hdg:isDig a.dig with
     |false=>
      have e:arrF (prevT l k) a=3:=by unfold arrF;rw [if_neg (by rw [hmb];simp),if_pos hdg]
      rw [e,if_pos (by decide)] at hv
      subst hv
      rw [hdg] at c2
      repeat'((conv=>whnf);first|(try(first|apply eN|apply eI|apply eC);conv=>whnf);apply sD;(focus(try intro hc;have hc0:=hc;(try simp only[SPLT]at hc);try refine and0 ?_);first|(exact idx_eq (f:=Arr.row) hx rfl)|exact gx c1|exact gx c2|(refine gx (within8_sem ?_ ?_ ?_)<;>exact pre)|(refine gx (isDigest8_sem ?_ ?_)<;>exact pre)|exact sideG)|(first|apply dG|apply kB);kernel_rfl|apply rR|apply rE|apply rH| (apply cD<;>intro hb<;>(try simp only[SPLT]at hb)<;>try exact noB))
      all_goals try exact false
      exact finR
     |true=>
      rw [hdg] at c2
      cases k with
      |zero=>
       have e:arrF (prevT l 0) a=0:=by unfold arrF;rw [if_neg (by rw [hmb];simp),if_neg (by rw [hdg];simp)];rfl
       rw [e,if_neg (by decide),← hnx] at hv
       repeat'((conv=>whnf);first|(try(first|apply eN|apply eI|apply eC);conv=>whnf);apply sD;(focus(try intro hc;have hc0:=hc;(try simp only[SPLT]at hc);try refine and0 ?_);first|(exact idx_eq (f:=Arr.row) hx rfl)|(exact show 0≤_∧_=some [D.int .i64 0,D.int .i64 0,D.str []] from absurd hc0 (by simp))|exact gx c1|exact gx c2|(refine gx (within8_sem ?_ ?_ ?_)<;>exact pre)|(refine gx (isDigest8_sem ?_ ?_)<;>exact pre)|exact sideG)|(first|apply dG|apply kB);kernel_rfl|apply rR|apply rE|apply rH| (apply cD<;>intro hb<;>(try simp only[SPLT]at hb)<;>try exact noB))
       all_goals try exact false
       refine ⟨1,⟨by omega,hv⟩,by omega,?_⟩
       exact finF
      |succ k=>
       obtain ⟨b,hb0⟩:∃ b,l[k]?=some b:=⟨_,List.getElem?_eq_getElem (by omega)⟩
       have hp:prevT l (k+1)=some b.time:=by simp [prevT,hb0]
       by_cases hlt2:a.time < b.time
       ·have e:arrF (prevT l (k+1)) a=8:=by unfold arrF;rw [if_neg (by rw [hmb];simp),if_neg (by rw [hdg];simp),hp];exact if_pos hlt2
        rw [e,if_pos (by decide)] at hv
        subst hv
        repeat'((conv=>whnf);first|(try(first|apply eN|apply eI|apply eC);conv=>whnf);apply sD;(focus(try intro hc;have hc0:=hc;(try simp only[SPLT]at hc);try refine and0 ?_);first|(exact idx_eq (f:=Arr.row) hx rfl)|(exact idx_eq (f:=Arr.row) hb0 (by omega))|exact gx c1|exact gx c2|(refine gx (within8_sem ?_ ?_ ?_)<;>exact pre)|(refine gx (isDigest8_sem ?_ ?_)<;>exact pre)|exact sideG)|(first|apply dG|apply kB);kernel_rfl|apply rR|apply rE|apply rH| (apply cD<;>intro hb<;>(try simp only[SPLT]at hb)<;>try exact noB))
        all_goals try exact false
        exact finR
       ·have e:arrF (prevT l (k+1)) a=0:=by unfold arrF;rw [if_neg (by rw [hmb];simp),if_neg (by rw [hdg];simp),hp];exact if_neg hlt2
        rw [e,if_neg (by decide),← hnx] at hv
        repeat'((conv=>whnf);first|(try(first|apply eN|apply eI|apply eC);conv=>whnf);apply sD;(focus(try intro hc;have hc0:=hc;(try simp only[SPLT]at hc);try refine and0 ?_);first|(exact idx_eq (f:=Arr.row) hx rfl)|(exact idx_eq (f:=Arr.row) hb0 (by omega))|exact gx c1|exact gx c2|(refine gx (within8_sem ?_ ?_ ?_)<;>exact pre)|(refine gx (isDigest8_sem ?_ ?_)<;>exact pre)|exact sideG)|(first|apply dG|apply kB);kernel_rfl|apply rR|apply rE|apply rH| (apply cD<;>intro hb<;>(try simp only[SPLT]at hb)<;>try exact noB))
        all_goals try exact false
        refine ⟨k+1+1,⟨by omega,hv⟩,by omega,?_⟩
        exact finF
/-! The reference's object. -/
def IS.rcells (s:Ser) (hold:Int) (l:List Arr) (t:IS):List D := [.int .i64 s.first,.int .i64 s.last,.int .i64 hold,.sl 0 3 (l.map Arr.row),.sl 2 2 (t.out.map Vd.row),.int .i64 t.e,.sl 1 2 (t.held.map Sn.row),.sl 1 2 (t.passed.map Sn.row)]
theorem tmod_place {a b:Int} (hb:0 < b):(if a.tmod b < 0 then a.tmod b+b else a.tmod b)=a % b:=by
 rcases Int.lt_or_le a 0 with h|h
 ·have h1:=Int.emod_nonneg a (show b ≠ 0 by omega)
  have h2:=Int.emod_lt_of_pos a hb
  have h3:a.tmod b = -((-a) % b):=by
   rw [show a = -(-a) by omega,Int.neg_tmod,Int.tmod_eq_emod_of_nonneg (by omega),Int.neg_neg]
  have h4:=Int.emod_nonneg (-a) (show b ≠ 0 by omega)
  have h5:=Int.emod_lt_of_pos (-a) hb
  rw [h3]
  have hd:b ∣ (a % b+(-a) % b):=by
   have e1:=Int.emod_add_mul_ediv a b
   have e2:=Int.emod_add_mul_ediv (-a) b
   refine ⟨-(a / b) - (-a) / b,?_⟩
   rw [Int.mul_sub,Int.mul_neg]
   omega
  obtain ⟨k,hk⟩:=hd
  have hk0:0≤k:=by
   rcases Int.lt_or_le k 0 with h|h
   ·have:b * k≤b * (-1):=Int.mul_le_mul_of_nonneg_left (by omega) (by omega)
    omega
   ·exact h
  have hk1:k < 2:=by
   rcases Int.lt_or_le k 2 with h|h
   ·exact h
   ·have:b * 2≤b * k:=Int.mul_le_mul_of_nonneg_left h (by omega)
    omega
  rcases (show k=0∨k=1 by omega) with rfl|rfl
  ·rw [if_neg (by omega)]
   omega
  ·by_cases h0:(-a) % b=0
   ·omega
   ·rw [if_pos (by omega)]
    omega
 ·rw [Int.tmod_eq_emod_of_nonneg h]
  have h1:=Int.emod_nonneg a (show b ≠ 0 by omega)
  rw [if_neg (by omega)]
theorem place8_sem (s:Ser) (hold:Int) (l:List Arr) (e n:Int) (o h p:List (List D)) (hok:seriesFaultN s=0) (hn:s.first≤n∧n≤s.last) (h0:0≤e) (h1:e≤3000000000000000000):
  Sem Tryd.prog 48 [.ptr [.int .i64 s.first,.int .i64 s.last,.int .i64 hold,.sl 0 3 (l.map Arr.row),.sl 0 2 o,.int .i64 e,.sl 0 2 h,.sl 0 2 p],.int .i64 n] (.int .i64 (placeN s e n)):=by
 have hs:=series_ok s hok
 have hz:=sizeN_bd s hok
 have c1:=size8_sem s hok
 have hm:=tmod_place (a:=e+sizeN s / 2 - (n - s.first)) (show 0 < sizeN s by omega)
 unfold placeN
 rw [← hm]
 clear hm
 have hss:sizeN s=s.last - s.first+1:=rfl
 generalize sizeN s=z at c1 hz hss
 have hr:0 - z < (e+z / 2 - (n - s.first)).tmod z∧(e+z / 2 - (n - s.first)).tmod z < z:=⟨by have:=Int.lt_tmod_of_pos (e+z / 2 - (n - s.first)) (show 0 < z by omega);omega,Int.tmod_lt_of_pos _ (by omega)⟩
 generalize hg:(e+z / 2 - (n - s.first)).tmod z=m at hr
 unfold Ser.d at c1
 refine si [1000028,1000035,1000036,1000043,1000044,1000046] Tryd.func48 ?_
 repeat'((conv=>whnf);first|(try(first|apply eN|apply eI|apply eC);conv=>whnf);apply sD;(focus first|exact gx c1|(refine gx (size8_sem ?_ ?_)<;>exact pre)|exact side)|(first|apply dG|apply kB);kernel_rfl|apply rR|apply rE|apply rH| (apply cD<;>intro hb<;>(try simp only[SPLT]at hb)<;>try exact noB))
 all_goals try exact false
 ·rw [hg] at hb
  repeat' ((conv=>whnf);first|exact endR|with_reducible first|apply And.intro|apply oR|apply oN|apply dC)
  all_goals (conv=>whnf)
  exact rle_int (by rw [if_pos hb,hg])
 ·rw [hg] at hb
  repeat' ((conv=>whnf);first|exact endR|with_reducible first|apply And.intro|apply oR|apply oN|apply dC)
  all_goals (conv=>whnf)
  exact rle_int (by rw [if_neg (by omega),hg])
open Go.Lib Go.Sort
set_option maxRecDepth 1000000
theorem run_clear_rows {P:Program} (w:World) (t e ty:TypeId) (z:Value) (news:List Value) (ht:P.underlying t=some (.slice e)) (hv:∀ w,(zeroValue e).run P w=.ok z w) (b o n c:Nat) (hn:0 < n) (hz:(Builtin.zeroCells z.cells n).toList=news) (h1:∀ v ∈ news,v.oneCell'=true)
  (hc:∀ j,j < news.length→(w.cell? ⟨b,o+j,none⟩).isSome=true) (hf:∀ j,j < news.length→w.frozen? ⟨b,o+j,none⟩=false):
  (Builtin.clear_ #[t] ty #[.slice (some ⟨b,o,none⟩) n c]).run P w=.ok (.tuple #[]) (w.setCells b o news):=by
 have hst:=run_storeCells_cells (P:=P) b o news 0 w (by simpa using hc) (by simpa using hf) h1
 simp only [Nat.add_zero] at hst
 obtain ⟨m,rfl⟩:∃ m,n=m+1:=⟨n - 1,by omega⟩
 simp [Builtin.clear_,run_underlying ht,hv,hz,hst]
theorem delete2 (blk off cap i j n:Nat) (d:Array Value) (w:World) (hH:Holds id w blk off d) (hd:d.size=n * 2) (hone:∀ u ∈ d.toList,u.oneCell'=true) (hcap:n≤cap) (hm:cap≤9223372036854775807) (hij:j=i+1) (hi:j≤n):
  Calls Tryd.prog 63 #[.slice (some ⟨blk,off,none⟩) n cap,.int .i64 i,.int .i64 j] w fun e w'=>e=.returned (.slice (some ⟨blk,off,none⟩) (n - 1) cap)∧∃ q,w'=putRow id (Sort.ahead w q) blk off (d.toList.take (i * 2)++d.toList.drop (i * 2+2) ++ [Value.int .i64 0,Value.int .i64 0]).toArray:=by
 obtain ⟨news,hnews⟩:∃ news,news=d.toList.drop (i * 2+2):=⟨_,rfl⟩
 have hlen:news.length=n * 2 - (i * 2+2):=by rw [hnews];simp [hd]
 have hget:∀ t,t < n * 2 - (i * 2+2)→news[t]?=some d[i * 2+2+t]! := by
  intro t ht
  rw [hnews,List.getElem?_drop,Array.getElem?_toList,getElem!_pos d (i * 2+2+t) (by omega),Array.getElem?_eq_getElem (by omega)]
 obtain ⟨A,hA,hsrc⟩:∃ A:Addr,(if cap=j then some (⟨blk,off,none⟩:Addr) else some ⟨blk,off+j * 2,none⟩)=some A∧Hid (∀ t u,news[t]?=some u→w.drew.cell? (A.add t)=some u):=by
  by_cases h:cap=j
  ·refine ⟨⟨blk,off,none⟩,by simp [h],fun t u hu => ?_⟩
   have h0:news.length=0:=by rw [hlen];omega
   rw [List.length_eq_zero_iff.1 h0] at hu
   simp at hu
  ·refine ⟨⟨blk,off+j * 2,none⟩,by simp [h],fun t u hu => ?_⟩
   have ht:t < n * 2 - (i * 2+2):=by
    have:=(gLt hu)
    rwa [hlen] at this
   rw [hget t ht] at hu
   rw [Addr.add_lit,show off+j * 2+t=off+(i * 2+2+t) by omega]
   exact (hH (i * 2+2+t) (by omega)).1.trans hu
 have s1:Hid (news.length=(n - j) * 2):=by show news.length=_;rw [hlen];omega
 have s2:Hid (∀ u ∈ news,u.oneCell'=true):=by
  intro u hu
  rw [hnews] at hu
  exact hone u (List.mem_of_mem_drop hu)
 have s3:Hid (∀ t,t < news.length→(w.drew.cell? ⟨blk,off+i * 2+t,none⟩).isSome=true∧w.drew.frozen? ⟨blk,off+i * 2+t,none⟩=false):=by
  intro t ht
  rw [hlen] at ht
  rw [Nat.add_assoc]
  exact ⟨by show (w.cell? _).isSome=true;rw [(hH (i * 2+t) (by omega)).1];rfl,(hH (i * 2+t) (by omega)).2⟩
 obtain ⟨W1,hW1⟩:∃ W1,W1=w.drew.setCells blk (off+i * 2) news:=⟨_,rfl⟩
 have hW1':W1=putRow id (Sort.ahead w 1) blk off (lay d (i * 2) (d.toList.drop (i * 2+2))):=by
  have:=putRow_setCells id (Sort.ahead w 1) blk off news d (i * 2) (by omega)
  rw [List.map_id,putRow_self id (Sort.ahead w 1) blk off d (holds_ahead id w 1 blk off d hH)] at this
  rw [hW1,← hnews,← this]
  rfl
 have hH1:Holds id W1 blk off (lay d (i * 2) (d.toList.drop (i * 2+2))):=by rw [hW1'];exact holds_putRow id _ blk off d _ (holds_ahead id w 1 blk off d hH) (lay_size _ _ _)
 have hzv:∀ w,(zeroValue 67).run Tryd.prog w=.ok (.agg #[.int .i64 0,.int .i64 0]) w:=fun w=>by kernel_rfl
 have hcl:∀ ty,(Builtin.clear_ #[58] ty #[.slice (some ⟨blk,off+(i+(n - j)) * 2,none⟩) (n - (i+(n - j))) (cap - (i+(n - j)))]).run Tryd.prog W1=.ok (.tuple #[]) (W1.setCells blk (off+(i+(n - j)) * 2) [Value.int .i64 0,Value.int .i64 0]):=
  fun ty=>run_clear_rows W1 _ _ ty _ [Value.int .i64 0,Value.int .i64 0] Tryd.underlying58 hzv blk _ _ _ (by omega) (by rw [show n - (i+(n - j))=1 by omega];first|kernel_rfl|decide +kernel|simp [Builtin.zeroCells,Value.cells]) (by simp [Value.oneCell']) (fun t ht=>by
   have ht:t < 2:=ht
   rw [show off+(i+(n - j)) * 2+t=off+((n - 1) * 2+t) by omega,(hH1 _ (by rw [lay_size];omega)).1];rfl) (fun t ht=>by
   have ht:t < 2:=ht
   rw [show off+(i+(n - j)) * 2+t=off+((n - 1) * 2+t) by omega,(hH1 _ (by rw [lay_size];omega)).2])
 have X:Aside (W1=putRow id (Sort.ahead w 1) blk off (lay d (i * 2) (d.toList.drop (i * 2+2)))):=hW1'
 have hW:Hid (W1=w.drew.setCells blk (off+i * 2) news):=hW1
 have hic:i≤cap:=by omega
 have hjc:j≤cap:=by omega
 have hne:¬ i=j:=by omega
 have hle:i≤j:=by omega
 obtain ⟨i0,hi0,hz1⟩:∃ i0,Tryd.prog.info? 67=some i0∧i0.size=2:=by
  have h:(Tryd.prog.info? 67).map (fun i=>i.size)=some 2:=by kernel_rfl
  cases hx:Tryd.prog.info? 67 with
  |none=>rw [hx] at h;cases h
  |some i0=>rw [hx] at h;exact ⟨i0,rfl,by simpa using h⟩
 have hDE:d.size=n * 2:=hd
 have mixed:=hM
 have t58:=Tryd.underlying58
 have t3:=Tryd.underlying3
 have t4:=Tryd.underlying4
 have hhid:Hid (j=i+1):=hij
 have hlt:i < j:=by omega
 clear hW1 hW1' hH1 hH hget hnews hlen hd hij
 go_enter Tryd.func63,Tryd.ntmps63
 go_wp2_with fail
 go_region_law_o (refine step_append_room rfl (.tmp 22) (.tmp 25) 58 rfl 67 i0 2 Tryd.underlying58 hi0 hz1 blk off i cap (by simp [Act.eval,Act.put]) A (n - j) (cap - j) news (by simp [Act.eval,Act.put]) s1.out hsrc.out s2.out (by omega) s3.out ?_;rw [← hW.out])
 go_wp2
 go_ret
 have hij:j=i+1:=hhid.out
 refine ⟨by rw [show n - 1=i+(n - j) by omega];rfl,1,?_⟩
 have hda:=delete_arr d (i * 2) (i * 2+2) (Value.int .i64 0) (by omega) (by omega)
 rw [show i * 2+2 - i * 2=2 by omega] at hda
 have hr2:List.replicate 2 (Value.int .i64 0) = [Value.int .i64 0,Value.int .i64 0]:=rfl
 rw [hr2] at hda
 have hps:=putRow_setCells id (Sort.ahead w 1) blk off [Value.int .i64 0,Value.int .i64 0] (lay d (i * 2) (d.toList.drop (i * 2+2))) (i * 2+(d.size - (i * 2+2))) (by rw [lay_size];simp;omega)
 rw [← hda,← hps,← X.out,List.map_id,show off+(i * 2+(d.size - (i * 2+2)))=off+(i+(n - j)) * 2 by omega]
section
variable {S S':Sig} {w w':World} {p:Place} {b cap m:Nat} {l:List Int} {cur:Array Value} {e:TypeId}
theorem own_step (hw:WF S w) (ho:S.own b=some (.slot 0,0)) (hg:w.grownBy w' (some b)) (hh:w.heap[b]?=some (.cells cur e (0,0))) {cur':Array Value} (hh':w'.heap[b]?=some (.cells cur' e (0,0))) (hs:cur'.size=cur.size) {x:Place × Nat}:WF (S.set b (some x)) w'∧Trans S w (S.set b (some x)) w':=by
 have other:∀ b',b' < w.heap.size→b' ≠ b→w'.heap[b']?=w.heap[b']?:=fun b' hb hne=>hg.block b' hb (fun e=>hne (Option.some.inj e))
 refine ⟨⟨fun b' y hy => ?_,hw.gl.keep fun b' hb hn => ?_⟩,hg.os,hg.tape,hg.output,hg.size,fun b' hb hn => ?_,fun b' q l hb hq hr => ?_,fun b' q l hb hq => ?_,rfl⟩
 ·by_cases hbb:b'=b
  ·subst hbb;exact Nat.lt_of_lt_of_le (hw _ _ ho) hg.size
  ·rw [Sig.set_ne _ _ hbb] at hy
   exact Nat.lt_of_lt_of_le (hw _ _ hy) hg.size
 ·have hbb:b' ≠ b:=fun e=>by subst e;rw [ho] at hn;cases hn
  exact ⟨other b' hb hbb,by rw [Sig.set_ne _ _ hbb];exact hn⟩
 ·have hbb:b' ≠ b:=fun e=>by subst e;rw [ho] at hn;cases hn
  exact ⟨other b' hb hbb,by rw [Sig.set_ne _ _ hbb];exact hn⟩
 ·have hbb:b' ≠ b:=fun e=>by subst e;rw [ho] at hq;cases hq;simp [Place.slot] at hr
  exact ⟨other b' hb hbb,by rw [Sig.set_ne _ _ hbb];exact hq⟩
 ·by_cases hbb:b'=b
  ·subst hbb
   rw [ho] at hq
   cases hq
   refine ⟨fun c t fz hc => ?_,fun x _=>Nat.zero_le _⟩
   rw [hh] at hc
   cases hc
   exact ⟨cur',hh',hs,fun off ho=>absurd ho (Nat.not_lt_zero _)⟩
  ·refine ⟨Keeps.of_eq (other b' hb hbb),fun x hx => ?_⟩
   rw [Sig.set_ne _ _ hbb,hq] at hx
   cases hx
   exact Nat.le_refl _
end
theorem holds_row {w:World} {b:Nat} {cur:Array Value} {e:TypeId} (h:w.heap[b]?=some (.cells cur e (0,0))) {m:Nat} (hm:m≤cur.size):Holds id w b 0 (cur.toList.take m).toArray:=fun j hj=>by
 have hjm:j < m:=by simp at hj;omega
 refine ⟨?_,by simp [World.frozen?,h]⟩
 rw [cell_of_row w b _ cur e (0,0) h,Nat.zero_add,getElem!_pos _ j hj]
 simp [Array.getElem?_eq_getElem (show j < cur.size by omega)]
theorem delete_sem (l:List Sn) (i:Nat) (hi:i < l.length):SemO Tryd.prog 63 (.sl 2 2 (l.map Sn.row)) [.int .i64 i,.int .i64 (i+1)] (.sl 2 2 ((l.eraseIdx i).map Sn.row)) none:=by
 refine ⟨inferInstance,rfl,(fun d' h=>nomatch h),fun S w v0 vs hw hr hvl hvs => ?_⟩
 obtain ⟨v1,v2,rfl⟩:∃ a b,vs = [a,b]:=by
  match vs,hvl with
  |[a,b],_=>exact ⟨a,b,rfl⟩
 obtain rfl:v1=.int .i64 i:=by
  have:=hvs 0 _ _ rfl rfl
  cases this
  rfl
 obtain rfl:v2=.int .i64 ((i+1:Nat):Int):=by
  have:=hvs 1 _ _ rfl rfl
  cases this
  rfl
 have hll:(l.map Sn.row).length=l.length:=List.length_map _
 rcases hr.sl_inv with ⟨rfl,h0⟩|⟨b,cap,cur,e,rfl,g⟩
 ·have:l = []:=by simpa using h0
  subst this
  simp at hi
 ·have hle:l.length≤cap:=by have:=g.le;omega
  have hsz:=g.size
  have hlt:b < w.heap.size:=(Array.getElem?_eq_some_iff.1 g.heap).1
  have hmax:cap≤9223372036854775807:=by
   have:=g.max
   have e:maxLen=9223372036854775807:=rfl
   omega
  have hone:∀ u ∈ (cur.toList.take (l.length * 2)).toArray.toList,u.oneCell'=true:=fun u hu=>by
   obtain ⟨t,ht⟩:=List.mem_iff_getElem?.1 hu
   have ht2:t < l.length * 2:=by
    have:=(gLt ht)
    simp at this
    omega
   obtain ⟨x,hx⟩:∃ x,l[t / 2]?=some x:=⟨_,List.getElem?_eq_getElem (by omega)⟩
   have hrow:(l.map Sn.row)[t / 2]?=some x.row:=by rw [List.getElem?_map,hx];rfl
   have hd:∃ d,x.row[t % 2]?=some d:=by
    rcases (show t % 2=0∨t % 2=1 by omega) with e|e<;>rw [e]<;>exact ⟨_,rfl⟩
   obtain ⟨d,hd⟩:=hd
   obtain ⟨y,y1,y2,y3⟩:=g.cells _ _ _ _ hrow hd
   rw [show t / 2 * 2+t % 2=t by omega] at y1
   have e:u=y:=by
    have hu2:(cur.toList.take (l.length * 2))[t]?=some u:=by simpa using ht
    rw [List.getElem?_take_of_lt ht2,Array.getElem?_toList] at hu2
    exact Option.some.inj (hu2.symm.trans y1)
   rw [e]
   exact y2
  rw [hll]
  refine (delete2 b 0 cap i (i+1) l.length _ w (holds_row g.heap (m:=l.length * 2) (by omega)) (by simp;omega) hone hle hmax rfl (by omega)).mono fun e' w' ⟨h1,q,h2⟩ => ?_
  generalize hys:(cur.toList.take (l.length * 2)).toArray.toList.take (i * 2)++(cur.toList.take (l.length * 2)).toArray.toList.drop (i * 2+2) ++ [Value.int .i64 0,Value.int .i64 0]=ys at h2
  have hcl:cur.toList.length=cap * 2:=by rw [Array.length_toList];exact hsz
  have hyl:ys.length=l.length * 2:=by
   rw [← hys]
   simp only [List.length_append,List.length_take,List.length_drop,List.length_cons,List.length_nil]
   omega
  have hyt:∀ t,t < (l.length - 1) * 2→ys[t]?=if t < i * 2 then cur[t]? else cur[t+2]?:=fun t ht=>by
   have hA:((cur.toList.take (l.length * 2)).take (i * 2)).length=i * 2:=by simp only [List.length_take];omega
   rw [← hys,List.append_assoc]
   split
   ·rw [List.getElem?_append_left (by show t < ((cur.toList.take (l.length * 2)).take (i * 2)).length;omega)]
    show ((cur.toList.take (l.length * 2)).take (i * 2))[t]?=_
    rw [List.getElem?_take_of_lt (by omega),List.getElem?_take_of_lt (by omega),Array.getElem?_toList]
   ·rw [List.getElem?_append_right (by show ((cur.toList.take (l.length * 2)).take (i * 2)).length≤t;omega)]
    show (((cur.toList.take (l.length * 2)).drop (i * 2+2))++_)[t - ((cur.toList.take (l.length * 2)).take (i * 2)).length]?=_
    rw [hA,List.getElem?_append_left (by simp only [List.length_take,List.length_drop];omega),List.getElem?_drop,List.getElem?_take_of_lt (by omega),Array.getElem?_toList]
    congr 1
    omega
  have hh':w'.heap[b]?=some (.cells (putCells id 0 ys.toArray cur) e (0,0)):=by
   rw [h2]
   simp [putRow,mapBlock,Sort.ahead,Array.getElem?_modify,g.heap,onCells]
  have hgr:w.grownBy w' (some b):=by
   rw [h2]
   refine ⟨rfl,rfl,rfl,by simp [putRow,mapBlock,Sort.ahead],fun k hk hne => ?_⟩
   have:b ≠ k:=fun e=>hne (by rw [e])
   simp [putRow,mapBlock,Sort.ahead,Array.getElem?_modify,this]
  obtain ⟨k1,k2⟩:=own_step (x:=(.res,0)) hw (by simpa using g.own) hgr g.heap hh' (by simp [putCells])
  have hel:(l.eraseIdx i).length=l.length - 1:=by rw [List.length_eraseIdx,if_pos hi]
  have hrl:((l.eraseIdx i).map Sn.row).length=l.length - 1:=by rw [List.length_map,hel]
  have ho:OwnAt (S.set b (some (.res,0))) w' .res b cap 2 2 ((l.eraseIdx i).map Sn.row) (putCells id 0 ys.toArray cur) e:=by
   refine ⟨.inr rfl,hh',by omega,g.max,by simp [putCells];exact hsz,fun r hr => ?_,by rw [Sig.set_at];rfl,fun k r j d hk hd => ?_⟩
   ·obtain ⟨y,_,rfl⟩:=List.mem_map.1 hr
    rfl
   ·have hkl:k < l.length - 1:=by have:=(gLt hk);omega
    rw [List.getElem?_map] at hk
    obtain ⟨y,hy,rfl⟩:∃ y,(l.eraseIdx i)[k]?=some y∧y.row=r:=by
     cases hx:(l.eraseIdx i)[k]? with
     |none=>rw [hx] at hk;cases hk
     |some y=>rw [hx] at hk;exact ⟨y,rfl,Option.some.inj hk⟩
    have hj:j < 2:=(gLt hd)
    have hfl:d.flat1=true:=by
     rcases (show j=0∨j=1 by omega) with e|e<;>subst e<;>cases hd<;>rfl
    have key:∃ u,ys[k * 2+j]?=some u∧u.oneCell'=true∧Fz S.lim w u d:=by
     rw [hyt _ (by omega)]
     rw [List.getElem?_eraseIdx] at hy
     split at hy
     ·rename_i hki
      have hrow:(l.map Sn.row)[k]?=some y.row:=by rw [List.getElem?_map,hy];rfl
      obtain ⟨u,u1,u2,u3⟩:=g.cells k _ j d hrow hd
      exact ⟨u,by rw [if_pos (by omega)];exact u1,u2,u3⟩
     ·rename_i hki
      have hrow:(l.map Sn.row)[k+1]?=some y.row:=by rw [List.getElem?_map,hy];rfl
      obtain ⟨u,u1,u2,u3⟩:=g.cells (k+1) _ j d hrow hd
      exact ⟨u,by rw [if_neg (by omega),show k * 2+j+2=(k+1) * 2+j by omega];exact u1,u2,u3⟩
    obtain ⟨u,u1,u2,u3⟩:=key
    refine ⟨u,?_,u2,flat1_any hfl u3⟩
    have hul:=(gLt u1)
    have hcu:k * 2+j < cur.size:=by omega
    simp only [putCells,Array.getElem?_mapIdx,Array.getElem?_eq_getElem hcu,Option.map_some]
    rw [if_pos ⟨Nat.zero_le _,by simp;omega⟩]
    have:ys.toArray[k * 2+j - 0]! = u:=by
     rw [Nat.sub_zero,getElem!_pos _ _ (by simpa using hul)]
     simpa using (List.getElem?_eq_some_iff.1 u1).2
    rw [this]
    rfl
  have:=Rep.own ho
  rw [hrl] at this
  rw [h1]
  exact ⟨_,_,rfl,k1,k2,this,fun d' hd=>nomatch hd⟩
end Go.Proofs.YtalejlbiccdfjaaDoor
namespace Go.Proofs.YtalejlbiccdfjaaDoor
set_option linter.unusedSimpArgs false
set_option linter.unusedVariables false
open Go.RowKit
set_option maxRecDepth 100000
set_option maxHeartbeats 4000000
def idl50_1:List (List Bool) := [[false,false,false,false,false,false,false,false,false,false,false],[true,false,false,false,false,false,false,false,false,false,false],[false,true,false,false,false,false,false,false,false,false,false],[false,false,false,false,false,true,false,false,false,false,false],[true,true,false,false,false,false,false,false,false,false,false],[true,false,false,false,false,true,false,false,false,false,false],[false,true,true,false,false,false,false,false,false,false,false],[false,true,false,false,false,true,false,false,false,false,false],[false,false,false,false,false,true,true,false,false,false,false],[true,true,true,false,false,false,false,false,false,false,false],[true,true,false,false,false,true,false,false,false,false,false],[true,false,false,false,false,true,true,false,false,false,false],[false,true,true,true,false,false,false,false,false,false,false],[false,true,true,false,false,true,false,false,false,false,false],[false,true,false,false,false,true,true,false,false,false,false],[true,true,true,true,false,false,false,false,false,false,false],[true,true,true,false,false,true,false,false,false,false,false],[true,true,false,false,false,true,true,false,false,false,false],[false,true,true,true,true,false,false,false,false,false,false],[false,true,true,true,false,true,false,false,false,false,false],[false,true,true,false,false,true,true,false,false,false,false],[true,true,true,true,true,false,false,false,false,false,false],[true,true,true,true,false,true,false,false,false,false,false],[true,true,true,false,false,true,true,false,false,false,false],[false,true,true,true,true,true,false,false,false,false,false],[false,true,true,true,false,true,true,false,false,false,false],[true,true,true,true,true,true,false,false,false,false,false],[true,true,true,true,false,true,true,false,false,false,false],[false,true,true,true,true,true,true,false,false,false,false],[true,true,true,true,true,true,true,false,false,false,false],[false,true,true,true,true,true,true,true,false,false,false],[true,true,true,true,true,true,true,true,false,false,false],[true,true,true,true,true,true,true,true,true,false,false],[true,true,true,true,true,true,true,true,true,true,false],[true,true,true,true,true,true,true,true,true,true,true]]
def atF (p:Int):Nat→Int→List Sn→Int
 |_,r,[]=>r
 |i,r,y::l=>atF p (i+1) (if y.pl=p then i else r) l
def atN (p:Int) (l:List Sn):Int:=atF p 0 (-1) l
theorem atF_at (p:Int):∀ (l:List Sn) (i:Nat) (r:Int),(lastS p l=none→atF p i r l=r)∧(∀ y,lastS p l=some y→∃ j:Nat,atF p i r l=(i+j:Nat)∧l[j]?=some y)
 |[],i,r=>⟨fun _=>rfl,fun y h=>by cases h⟩
 |x::l,i,r=>by
  obtain ⟨h1,h2⟩:=atF_at p l (i+1) (if x.pl=p then (i:Int) else r)
  refine ⟨fun h => ?_,fun y h => ?_⟩
  ·unfold lastS at h
   split at h
   ·cases h
   ·rename_i hn
    split at h
    ·cases h
    ·rename_i hx
     rw [atF,h1 hn,if_neg hx]
  ·unfold lastS at h
   split at h
   ·rename_i z hz
    cases h
    obtain ⟨j,j1,j2⟩:=h2 _ hz
    exact ⟨j+1,by rw [atF,j1];omega,by simpa using j2⟩
   ·rename_i hn
    split at h
    ·rename_i hx
     cases h
     exact ⟨0,by rw [atF,h1 hn,if_pos hx];omega,rfl⟩
    ·cases h
theorem atN_none {p:Int} {l:List Sn} (h:lastS p l=none):atN p l = -1:=(atF_at p l 0 (-1)).1 h
theorem atN_some {p:Int} {l:List Sn} {y:Sn} (h:lastS p l=some y):∃ j:Nat,atN p l=j∧l[j]?=some y:=by
 obtain ⟨j,j1,j2⟩:=(atF_at p l 0 (-1)).2 y h
 exact ⟨j,by unfold atN;rw [j1];omega,j2⟩
theorem at8_sem (l:List Sn) (p:Int) (hl:l.length≤1000000):Sem Tryd.prog 49 [.sl 0 2 (l.map Sn.row),.int .i64 p] (.int .i64 (atN p l)):=by
 have hll:(l.map Sn.row).length=l.length:=List.length_map _
 unfold atN
 generalize hr:atF p 0 (-1) l=r
 refine si [7,2000007,1000028,1000035,1000036,1000043,1000044,1000046,1000050,1000063] Tryd.func49 ?_
 repeat'((conv=>whnf);first|(try(first|apply eN|apply eI|apply eC);conv=>whnf);apply sD;(focus first|exact side)|apply rR|apply rE|apply rH| (apply cD<;>intro hb<;>(try simp only[SPLT]at hb)<;>try exact noB))
 all_goals try exact false
 refine loop_go (M:=fun t=>mem t [7,2000007,1000028,1000035,1000036,1000043,1000044,1000046,1000050,1000063]) hT hM (fun x:Nat × Int => [(10,.int .i64 x.1),(5,.int .i64 x.2)]) (fun x=>x.1≤l.length∧atF p x.1 x.2 (l.drop x.1)=r) (fun x=>l.length - x.1) ((0,-1)) ?_ ?_ ?_
 ·exact finF
 ·exact ⟨Nat.zero_le _,hr⟩
 ·rintro ⟨k,q⟩ ⟨hk,hv⟩
  dsimp only at hk hv ⊢
  rcases hx:l[k]? with _|y
  ·have hm:=List.getElem?_eq_none_iff.1 hx
   rw [List.drop_of_length_le hm] at hv
   repeat'((conv=>whnf);first|(try(first|apply eN|apply eI|apply eC);conv=>whnf);apply sD;(focus first|exact side)|apply rR|apply rE|apply rH| (apply cD<;>intro hb<;>(try simp only[SPLT]at hb)<;>try exact noB))
   all_goals try exact false
   repeat' ((conv=>whnf);first|exact endR|with_reducible first|apply And.intro|apply oR|apply oN|apply dC)
   all_goals (conv=>whnf)
   exact rle_int hv
  ·have hlt:=(gLt hx)
   rw [show l.drop k=y::l.drop (k+1) by rw [List.drop_eq_getElem?_toList_append,hx];rfl,atF] at hv
   repeat'((conv=>whnf);first|(try(first|apply eN|apply eI|apply eC);conv=>whnf);apply sD;(focus first|(exact idx_eq (f:=Sn.row) hx rfl)|exact side)|apply rR|apply rE|apply rH| (apply cD<;>intro hb<;>(try simp only[SPLT]at hb)<;>try exact noB))
   all_goals try exact false
   ·rw [if_pos hb] at hv
    refine ⟨(k+1,(k:Int)),⟨by dsimp only;omega,hv⟩,by dsimp only;omega,?_⟩
    exact finF
   ·rw [if_neg hb] at hv
    refine ⟨(k+1,q),⟨by dsimp only;omega,hv⟩,by dsimp only;omega,?_⟩
    exact finF
theorem alike8_sem (s:Ser) (hold:Int) (l:List Arr) (e:Int) (a:Arr) (y:Sn) (n:Nat) (b:Arr) (o h p:List (List D)) (hy:y.num=n) (hb0:l[n]?=some b):
  Sem Tryd.prog 52 [.ptr [.int .i64 s.first,.int .i64 s.last,.int .i64 hold,.sl 0 3 (l.map Arr.row),.sl 0 2 o,.int .i64 e,.sl 0 2 h,.sl 0 2 p],.agg a.row,.agg y.row] (.int .i64 (alikeK l a.dig y)):=by
 have hll:(l.map Arr.row).length=l.length:=List.length_map _
 have hbl:=(gLt hb0)
 have hk:alikeK l a.dig y=if a.dig=b.dig then 2 else 3:=by
  unfold alikeK
  rw [hy,digAt_at hb0]
 rw [hk]
 obtain ⟨yn,yp⟩:=y
 dsimp only at hy
 subst hy
 refine si [1000028,1000035,1000036,1000043,1000044,1000046,1000050,1000063] Tryd.func52 ?_
 repeat'((conv=>whnf);first|(try(first|apply eN|apply eI);conv=>whnf);apply sD;(focus first|(exact idx_eq (f:=Arr.row) hb0 rfl)|exact side)|(first|apply dG|apply kB);kernel_rfl|apply rR|apply rE|apply rH| (apply cD<;>intro hb<;>(try simp only[SPLT]at hb)<;>try exact noB))
 all_goals try exact false
 ·repeat' ((conv=>whnf);first|exact endR|with_reducible first|apply And.intro|apply oR|apply oN|apply dC)
  all_goals (conv=>whnf)
  exact rle_int (by rw [if_pos hb])
 ·repeat' ((conv=>whnf);first|exact endR|with_reducible first|apply And.intro|apply oR|apply oN|apply dC)
  all_goals (conv=>whnf)
  exact rle_int (by rw [if_neg hb])
theorem pass8_sem (s:Ser) (hold:Int) (l:List Arr) (t:IS) (i:Nat) (p time:Int) (hi:i < t.out.length) (ho:t.out.length≤100000) (hp:t.passed.length≤100000):
  SemO Tryd.prog 50 (.obj (t.rcells s hold l)) [.agg [.int .i64 i,.int .i64 p],.int .i64 time] (.tup []) (some (.obj ((t.pass ⟨i,p⟩ time).rcells s hold l))):=by
 have hol:(t.out.map Vd.row).length=t.out.length:=List.length_map _
 have hpl:(t.passed.map Sn.row).length=t.passed.length:=List.length_map _
 obtain ⟨v,hv⟩:∃ v,t.out[i]?=some v:=⟨_,List.getElem?_eq_getElem hi⟩
 have e1:=setT_at (time:=time) hv
 have e3:=vd_set (u:=⟨v.kind,time⟩) hv
 unfold IS.rcells IS.pass
 dsimp only
 rw [e1,← e3]
 obtain ⟨e,hd,pa,out⟩:=t
 dsimp only at *
 refine semO_intro (M:=fun t=>mem t [0,4000000,5000001,1000028,1000035,1000036,1000043,1000044,1000046,1000050,1000063]) hT hM Tryd.func50 inferInstance rfl rfl rfl rfl rfl rfl rfl rfl rfl ?_
 repeat'((conv=>whnf);first|((with_reducible apply DrawI.at 6 idl50_1);exact rfl;kernel_rfl)|with_reducible apply ExE.go|((with_reducible apply EqF.mk);exact rfl)|with_reducible apply AndI.mk|with_reducible exact trivial|(try(first|apply eN|apply eI|apply eC);conv=>whnf);apply sD;(focus first|(exact idx_eq (f:=Vd.row) hv rfl)|exact side)|(first|apply dG|apply kB);kernel_rfl|apply rR|apply rE|apply rH| (apply cD<;>intro hb<;>(try simp only[SPLT]at hb)<;>try exact noB))
 all_goals try exact false
 repeat' ((conv=>whnf);first|exact endR|with_reducible first|apply And.intro|apply oR|apply oN|apply dC)
 all_goals (conv=>whnf)
 ·exact DLe.of_eq (congrArg (D.sl 2 2) rfl)
 ·exact DLe.of_eq (congrArg (D.sl 1 2) (by rw [List.map_append];rfl))
theorem lowest8_sem (s:Ser) (hold:Int) (l:List Arr) (e:Int) (y:Sn) (r:List Sn) (o p:List (List D)) (hl:(y::r).length≤1000000):
  Sem Tryd.prog 31 [.ptr [.int .i64 s.first,.int .i64 s.last,.int .i64 hold,.sl 0 3 (l.map Arr.row),.sl 0 2 o,.int .i64 e,.sl 0 2 ((y::r).map Sn.row),.sl 0 2 p]] (.int .i64 (lowS (y::r))):=by
 have hll:((y::r).map Sn.row).length=(y::r).length:=List.length_map _
 have he:∀ (z x:Sn) (l:List Sn),lowS (z::x::l)=min z.pl (lowS (x::l)):=fun z x l=>by
  rw [lowS]
  simp
 have key:∀ (l:List Sn) (z:Sn) (m:Int),l.foldl (fun m x=>min m x.pl) (min m z.pl)=min m (lowS (z::l)):=fun l=>by
  induction l with
  |nil=>intro z m;rfl
  |cons x l ih=>
   intro z m
   rw [List.foldl_cons,ih,he]
   omega
 have hlow:(y::r).foldl (fun m x=>min m x.pl) y.pl=lowS (y::r):=by
  rw [List.foldl_cons,key]
  cases r with
  |nil=>simp [lowS]
  |cons x l=>rw [he];omega
 generalize hr:lowS (y::r)=q
 have hr2:(y::r).foldl (fun m x=>min m x.pl) y.pl=q:=hlow.trans hr
 clear hlow key he hr
 generalize hL:y::r=L at *
 have h0:L[0]?=some y:=by rw [← hL];rfl
 refine si [5,2000005,1000028,1000035,1000036,1000043,1000044,1000046,1000050,1000063] Tryd.func31 ?_
 repeat'((conv=>whnf);first|(try(first|apply eN|apply eI|apply eC);conv=>whnf);apply sD;(focus first|(exact idx_eq (f:=Sn.row) h0 rfl)|exact side)|apply rR|apply rE|apply rH| (apply cD<;>intro hb<;>(try simp only[SPLT]at hb)<;>try exact noB))
 all_goals try exact false
 refine loop_go (M:=fun t=>mem t [5,2000005,1000028,1000035,1000036,1000043,1000044,1000046,1000050,1000063]) hT hM (fun x:Nat × Int => [(18,.int .i64 x.1),(3,.int .i64 x.2)]) (fun x=>x.1≤L.length∧(L.drop x.1).foldl (fun m x=>min m x.pl) x.2=q) (fun x=>L.length - x.1) ((0,y.pl)) ?_ ?_ ?_
 ·exact finF
 ·exact ⟨Nat.zero_le _,hr2⟩
 ·rintro ⟨k,m⟩ ⟨hk,hv⟩
  dsimp only at hk hv ⊢
  rcases hx:L[k]? with _|z
  ·have hm:=List.getElem?_eq_none_iff.1 hx
   rw [List.drop_of_length_le hm] at hv
   repeat'((conv=>whnf);first|(try(first|apply eN|apply eI|apply eC);conv=>whnf);apply sD;(focus first|exact side)|apply rR|apply rE|apply rH| (apply cD<;>intro hb<;>(try simp only[SPLT]at hb)<;>try exact noB))
   all_goals try exact false
   repeat' ((conv=>whnf);first|exact endR|with_reducible first|apply And.intro|apply oR|apply oN|apply dC)
   all_goals (conv=>whnf)
   exact rle_int hv
  ·have hlt:=(gLt hx)
   rw [show L.drop k=z::L.drop (k+1) by rw [List.drop_eq_getElem?_toList_append,hx];rfl,List.foldl_cons] at hv
   repeat'((conv=>whnf);first|(try(first|apply eN|apply eI|apply eC);conv=>whnf);apply sD;(focus first|(exact idx_eq (f:=Sn.row) hx rfl)|exact side)|apply rR|apply rE|apply rH| (apply cD<;>intro hb<;>(try simp only[SPLT]at hb)<;>try exact noB))
   all_goals try exact false
   refine ⟨(k+1,min m z.pl),⟨by dsimp only;omega,hv⟩,by dsimp only;omega,?_⟩
   exact finF
theorem last_find {p:Int}:∀ {l:List Sn},l.Pairwise (fun a b=>a.pl ≠ b.pl)→lastS p l=findS p l
 |[],_=>rfl
 |y::l,h=>by
  rw [List.pairwise_cons] at h
  rw [lastS,findS,last_find h.2]
  split
  ·rename_i z hz
   have:=h.1 z (findS_at hz).2.1
   have:=(findS_at hz).1
   rw [if_neg (by omega)]
   exact hz.symm
  ·rename_i hn
   rw [hn]
theorem delS_erase {p:Int}:∀ {l:List Sn} {j:Nat} {y:Sn},l.Pairwise (fun a b=>a.pl ≠ b.pl)→l[j]?=some y→y.pl=p→delS p l=l.eraseIdx j
 |x::l,0,y,_,hj,hp=>by
  cases hj
  rw [delS,if_pos hp]
  rfl
 |x::l,j+1,y,h,hj,hp=>by
  rw [List.pairwise_cons] at h
  have hj:l[j]?=some y:=by simpa using hj
  have:=h.1 y (gMem hj)
  rw [delS,if_neg (by omega),delS_erase h.2 hj hp]
  rfl
def CloneOk:Prop:=∀ l:List Sn,l.length≤100000→Sem Tryd.prog 64 [.sl 0 2 (l.map Sn.row)] (.sl 2 2 (l.map Sn.row))
theorem follow8_sem (s:Ser) (hold:Int) (l:List Arr) (t:IS) (time:Int) {k:Nat} {M:Int} (h:t.Mid k M) (hk:k≤100000) (hMb:M≤4000000000000000000) (hclone:CloneOk):
  SemO Tryd.prog 51 (.obj (t.rcells s hold l)) [.int .i64 time] (.tup []) (some (.obj ((t.follow time).rcells s hold l))):=by
 generalize hr:t.follow time=r
 have hfew:=h.few
 have c0:=at8_sem t.held t.e (by omega)
 generalize hq:atN t.e t.held=q at c0
 unfold IS.rcells
 refine semO_intro (M:=fun t=>mem t [0,4000000,10000006,10000007,1000028,1000035,1000036,1000043,1000044,1000046,1000050,1000051,1000063]) hT hM Tryd.func51 inferInstance rfl rfl rfl rfl rfl rfl rfl rfl rfl ?_
 repeat'((conv=>whnf);first|(try(first|apply eN|apply eI|apply eC);conv=>whnf);apply sD;(focus first|exact gx c0|(refine gx (at8_sem ?_ ?_ ?_)<;>exact pre)|exact side)|((with_reducible apply CallO.go);(conv=>whnf);(with_reducible apply sD);(focus (first|((apply giveso_go (pass8_sem _ _ _ _ _ _ _ _ _ _));(focus (first|exact rfl|(simp;done)));(focus (exact DLes.au));exact rfl;(all_goals (exact pre)))|((apply giveso_go (delete_sem _ _ _));(focus (first|exact rfl|(simp;done)));(focus (exact DLes.au));exact rfl;(all_goals (exact pre))))))|(first|apply dG|apply kB);kernel_rfl|apply rR|apply rE|apply rH| (apply cD<;>intro hb<;>(try simp only[SPLT]at hb)<;>try exact noB))
 all_goals try exact false
 refine loop_go (M:=fun t=>mem t [0,4000000,10000006,10000007,1000028,1000035,1000036,1000043,1000044,1000046,1000050,1000051,1000063]) hT hM (fun x:IS => [(0,.obj (x.rcells s hold l)),(4,.int .i64 (atN x.e x.held))]) (fun x=>x.Mid k M∧x.follow time=r) (fun x=>x.held.length) (t) ?_ ?_ ?_
 ·rw [← hq]
  exact finF
 ·exact ⟨h,hr⟩
 ·rintro x ⟨hx,hv⟩
  have hlf:=last_find (p:=x.e) hx.dist
  have hfew:=hx.few
  cases hy:findS x.e x.held with
  |none=>
   rw [follow_none hy] at hv
   subst hv
   rw [atN_none (hlf.trans hy)]
   unfold IS.rcells
   repeat'((conv=>whnf);first|(try(first|apply eN|apply eI|apply eC);conv=>whnf);apply sD;(focus first|(refine gx (at8_sem ?_ ?_ ?_)<;>exact pre)|exact side)|((with_reducible apply CallO.go);(conv=>whnf);(with_reducible apply sD);(focus (first|((apply giveso_go (pass8_sem _ _ _ _ _ _ _ _ _ _));(focus (first|exact rfl|(simp;done)));(focus (exact DLes.au));exact rfl;(all_goals (exact pre)))|((apply giveso_go (delete_sem _ _ _));(focus (first|exact rfl|(simp;done)));(focus (exact DLes.au));exact rfl;(all_goals (exact pre))))))|(first|apply dG|apply kB);kernel_rfl|apply rR|apply rE|apply rH| (apply cD<;>intro hb<;>(try simp only[SPLT]at hb)<;>try exact noB))
   all_goals try exact false
   exact finR
  |some y=>
   obtain ⟨j,hj,hjy⟩:=atN_some (hlf.trans hy)
   rw [hj]
   have hjl:=(gLt hjy)
   have hn:=hx.nums y (findS_at hy).2.1
   have hlo:=hx.lo
   have hhi:=hx.hi
   have hout:=hx.out
   obtain ⟨n,hn'⟩:∃ n:Nat,y.num=n:=⟨y.num.toNat,by omega⟩
   have hpl:y.pl=x.e:=(findS_at hy).1
   have ey:y=⟨n,x.e⟩:=by rw [← hn',← hpl]
   have hp:=pass8_sem s hold l x n x.e time (by omega) (by omega) (by omega)
   have hcl:=hclone x.held (by omega)
   have hd:=delete_sem x.held j hjl
   have hde:=delS_erase hx.dist hjy hpl
   have hpop:=hx.pop (time:=time) hy
   have h3:=(findS_at hy).2.2
   have hel:(x.held.eraseIdx j).length+1=x.held.length:=by rw [← hde];exact h3
   have c2:=at8_sem (x.held.eraseIdx j) (x.e+1) (by omega)
   rw [follow_some hy,hn'] at hv
   rw [hn'] at hpop
   rw [ey] at hv hpop hjy
   rw [hde] at hv hpop h3
   unfold IS.pass IS.rcells at hp
   dsimp only at hp
   unfold IS.rcells
   repeat'((conv=>whnf);first|(try(first|apply eN|apply eI|apply eC);conv=>whnf);apply sD;(focus first|(exact idx_eq (f:=Sn.row) hjy rfl)|exact gx hcl|exact gx c2|(refine gx (at8_sem ?_ ?_ ?_)<;>exact pre)|exact side)|((with_reducible apply CallO.go);(conv=>whnf);(with_reducible apply sD);(focus (first|((apply giveso_go (hp));(focus (first|exact rfl|(simp;done)));(focus (exact DLes.au));exact rfl;(all_goals (exact pre)))|((apply giveso_go (hd));(focus (first|exact rfl|(simp;done)));(focus (exact DLes.au));exact rfl;(all_goals (exact pre))))))|(first|apply dG|apply kB);kernel_rfl|apply rR|apply rE|apply rH| (apply cD<;>intro hb<;>(try simp only[SPLT]at hb)<;>try exact noB))
   all_goals try exact false
   refine ⟨⟨x.e+1,x.held.eraseIdx j,x.passed ++ [⟨n,x.e⟩],setT x.out n time⟩,⟨hpop,hv⟩,by dsimp only;omega,?_⟩
   exact finF
theorem give8_sem (s:Ser) (hold:Int) (l:List Arr) (t:IS) (time:Int) {k:Nat} {M:Int} (h:t.Ok k M) (hk:k≤l.length) (hl:l.length≤100000) (hMb:M≤4000000000000000000) (hh:0≤hold∧hold≤100000000) (ht:∀ a ∈ l,0≤a.time∧a.time≤1000000000000000) (hclone:CloneOk):
  SemO Tryd.prog 40 (.obj (t.rcells s hold l)) [.int .i64 time] (.tup []) (some (.obj ((t.give l hold time).rcells s hold l))):=by
 have hll:(l.map Arr.row).length=l.length:=List.length_map _
 generalize hr:t.give l hold time=r
 refine semO_intro (M:=fun t=>mem t [0,4000000,10000006,10000007,1000028,1000035,1000036,1000040,1000043,1000044,1000046,1000050,1000051,1000063]) hT hM Tryd.func40 inferInstance rfl rfl rfl rfl rfl rfl rfl rfl rfl ?_
 repeat'((conv=>whnf);first|(try(first|apply eN|apply eI|apply eC);conv=>whnf);apply sD;(focus(try intro hc;have hc0:=hc;(try simp only[SPLT]at hc);try refine and0 ?_);first|(refine gx (lowest8_sem ?_ ?_ ?_ ?_ ?_ ?_ ?_ ?_ ?_ ?_)<;>exact pre)|exact sideG)|((with_reducible apply CallO.go);(conv=>whnf);(with_reducible apply sD);(focus (first|((apply giveso_go (follow8_sem _ _ _ _ _ _ _ _ _));(focus (first|exact rfl|(simp;done)));(focus (exact DLes.au));exact rfl;(all_goals (exact pre))))))|(first|apply dG|apply kB);kernel_rfl|apply rR|apply rE|apply rH| (apply cD<;>intro hb<;>(try simp only[SPLT]at hb)<;>try exact noB))
 all_goals try exact false
 refine loop_go (M:=fun t=>mem t [0,4000000,10000006,10000007,1000028,1000035,1000036,1000040,1000043,1000044,1000046,1000050,1000051,1000063]) hT hM (fun x:IS => [(0,.obj (x.rcells s hold l))]) (fun x=>x.Ok k M∧x.give l hold time=r) (fun x=>x.held.length) (t) ?_ ?_ ?_
 ·exact finF
 ·exact ⟨h,hr⟩
 ·rintro x ⟨hx,hv⟩
  have hfew:=hx.few
  cases hheld:x.held with
  |nil=>
   rw [give_nil hheld] at hv
   subst hv
   unfold IS.rcells
   rw [hheld]
   repeat'((conv=>whnf);first|(try(first|apply eN|apply eI|apply eC);conv=>whnf);apply sD;(focus(try intro hc;have hc0:=hc;(try simp only[SPLT]at hc);try refine and0 ?_);first|(exact show 0≤_∧_=some [D.int .i64 0,D.int .i64 0] from absurd hc0 (by simp))|(refine gx (lowest8_sem ?_ ?_ ?_ ?_ ?_ ?_ ?_ ?_ ?_ ?_)<;>exact pre)|exact sideG)|((with_reducible apply CallO.go);(conv=>whnf);(with_reducible apply sD);(focus (first|((apply giveso_go (follow8_sem _ _ _ _ _ _ _ _ _));(focus (first|exact rfl|(simp;done)));(focus (exact DLes.au));exact rfl;(all_goals (exact pre))))))|(first|apply dG|apply kB);kernel_rfl|apply rR|apply rE|apply rH| (apply cD<;>intro hb<;>(try simp only[SPLT]at hb)<;>try exact noB))
   all_goals try exact false
   exact finR
  |cons y q=>
   have hn:=hx.nums y (by rw [hheld];simp)
   obtain ⟨n,hn'⟩:∃ n:Nat,y.num=n:=⟨y.num.toNat,by omega⟩
   obtain ⟨a,ha⟩:∃ a,l[n]?=some a:=⟨_,List.getElem?_eq_getElem (by omega)⟩
   have hat:=ht a (gMem ha)
   have htm:tmAt l y.num=a.time:=by unfold tmAt;rw [hn',Int.toNat_natCast,ha]
   have hne:x.held ≠ []:=by rw [hheld];simp
   have h0:(y::q)[0]?=some (⟨n,y.pl⟩:Sn):=by rw [← hn'];rfl
   have hlen:(y::q).length≤100000:=by rw [← hheld];omega
   have hqp:0 < (y::q).length:=by simp
   have hml:((y::q).map Sn.row).length=(y::q).length:=List.length_map _
   by_cases hc:time < a.time+hold
   ·rw [give_stop hheld (by rw [htm];exact hc)] at hv
    subst hv
    unfold IS.rcells
    rw [hheld]
    generalize y::q=L at *
    repeat'((conv=>whnf);first|(try(first|apply eN|apply eI|apply eC);conv=>whnf);apply sD;(focus(try intro hc;have hc0:=hc;(try simp only[SPLT]at hc);try refine and0 ?_);first|(exact idx_eq (f:=Sn.row) h0 rfl)|(exact idx_eq (f:=Arr.row) ha rfl)|(refine gx (lowest8_sem ?_ ?_ ?_ ?_ ?_ ?_ ?_ ?_ ?_ ?_)<;>exact pre)|exact sideG)|((with_reducible apply CallO.go);(conv=>whnf);(with_reducible apply sD);(focus (first|((apply giveso_go (follow8_sem _ _ _ _ _ _ _ _ _));(focus (first|exact rfl|(simp;done)));(focus (exact DLes.au));exact rfl;(all_goals (exact pre))))))|(first|apply dG|apply kB);kernel_rfl|apply rR|apply rE|apply rH| (apply cD<;>intro hb<;>(try simp only[SPLT]at hb)<;>try exact noB))
    all_goals try exact false
    exact finR
   ·obtain ⟨g1,g2,g3⟩:=give_go (l:=l) (hold:=hold) (time:=time) hx hheld (by rw [htm];omega)
    rw [g1,htm] at hv
    rw [htm] at g2 g3
    have hlo:=lowest8_sem s hold l x.e y q (x.out.map Vd.row) (x.passed.map Sn.row) (by omega)
    have hg:=follow8_sem s hold l ⟨lowS x.held,x.held,x.passed,x.out⟩ (a.time+hold) (hx.low hne) (by omega) hMb hclone
    generalize hnx:IS.follow ⟨lowS x.held,x.held,x.passed,x.out⟩ (a.time+hold)=nx at *
    unfold IS.rcells at hg ⊢
    dsimp only at hg
    rw [hheld] at hg g3 ⊢
    generalize y::q=L at *
    repeat'((conv=>whnf);first|(try(first|apply eN|apply eI|apply eC);conv=>whnf);apply sD;(focus(try intro hc;have hc0:=hc;(try simp only[SPLT]at hc);try refine and0 ?_);first|(exact idx_eq (f:=Sn.row) h0 rfl)|(exact idx_eq (f:=Arr.row) ha rfl)|exact gx hlo|(refine gx (lowest8_sem ?_ ?_ ?_ ?_ ?_ ?_ ?_ ?_ ?_ ?_)<;>exact pre)|exact sideG)|((with_reducible apply CallO.go);(conv=>whnf);(with_reducible apply sD);(focus (first|((apply giveso_go (hg));(focus (first|exact rfl|(simp;done)));(focus (exact DLes.au));exact rfl;(all_goals (exact pre))))))|(first|apply dG|apply kB);kernel_rfl|apply rR|apply rE|apply rH| (apply cD<;>intro hb<;>(try simp only[SPLT]at hb)<;>try exact noB))
    all_goals try exact false
    all_goals first
     |(exfalso;simp at hb;omega)
     |(refine ⟨nx,⟨g2,hv⟩,g3,?_⟩;(conv=>whnf);(refine ⟨?_,by rfl⟩);(repeat' ((conv=>whnf);first|exact endF|exact endF2|with_reducible apply dC)))
open Go.Lib
theorem cloneS_zero (A:Addr) (c:Nat) (w:World):Calls Tryd.prog 64 #[.slice (some A) 0 c] w fun x w'=>∃ v',x=.returned v'∧w'.ownsRow w.heap.size 67 2 v' 0 []∧v' ≠ .slice none 0 0∧Below w.heap.size w w':=by
 go_enter Tryd.func64,Tryd.ntmps64
 go_wp2
 rw [(run_slNil Tryd.underlying58).1]
 go_wp2
 go_ret
 refine ⟨.slice (some ⟨w.heap.size,0,none⟩) 0 0,rfl,⟨rfl,.inr ⟨w.heap.size,0,#[],rfl,Nat.le_refl _,?_,Nat.le_refl _,Nat.zero_le _,rfl,rfl⟩⟩,(by intro h;cases h),Ext.alloc _ _⟩
 show (w.heap.push _)[w.heap.size]?=_
 rw [Array.getElem?_push,if_pos rfl]
def laysCl_ren:Go.Shelf.Ren:=⟨fun|41=>64|n=>n,fun|22=>58|23=>67|4=>4|n=>n,fun|n=>n⟩
theorem laysCl:Go.Proofs.SlLaysE0.n41 Tryd.prog laysCl_ren:={
 mixed:=by kernel_rfl
 f41:=⟨Tryd.f64.name,by decide,Tryd.func64.trans (congrArg some (by kernel_rfl))⟩
 t4:=Tryd.underlying4
 a4:=Tryd.isAgg4
 z4:=Tryd.sizeOf4
 v4:=Tryd.zeroValue4
 t22:=Tryd.underlying58
 a22:=Tryd.isAgg58
 z22:=Tryd.sizeOf58
 v22:=Tryd.zeroValue58 }
theorem infoCl:(Tryd.prog.info? 67).any (fun i=>i.size == 2 && i.bytes == 16 && match i.zero with|some z=>z.cells.size == 2|none=>false)=true:=by kernel_rfl
theorem cloneOk:CloneOk:=fun l hl=>by
 refine clone_sem (e:=67) (fun r hr=>by obtain ⟨c,_,rfl⟩:=List.mem_map.1 hr;rfl) (fun w=>AnyE.slices_Clone_nil laysCl 0 0 w) cloneS_zero fun b o c news w hn hc h1 _ => ?_
 have hi:=infoCl
 rw [Option.any_eq_true] at hi
 obtain ⟨i0,hi0,hi1⟩:=hi
 simp only [Bool.and_eq_true,beq_iff_eq] at hi1
 obtain ⟨⟨h6,h88⟩,hz⟩:=hi1
 cases hz0:i0.zero with
 |none=>rw [hz0] at hz;cases hz
 |some z=>
  rw [hz0] at hz
  rw [List.length_map] at hn ⊢
  exact AnyE.slices_Clone laysCl i0 z 2 16 hi0 hz0 h6 h88 (by simpa using hz) (by decide) Tryd.sizeOf67 b o l.length c news w hn (by unfold maxLen;omega) (by omega) hc h1
end Go.Proofs.YtalejlbiccdfjaaDoor
