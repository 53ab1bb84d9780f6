/- Tags: what they are, and the walks. -/
import Derived.Test.YtindehjiaknokaaGreatDoorZ9
import Derived.Test.YtindehjiaknokaaGreatDoorZ10
namespace Go.Proofs.YtindehjiaknokaaGreatDoor
set_option linter.unusedSimpArgs false
set_option linter.unusedVariables false
open Go.RowKit
set_option maxRecDepth 100000
set_option maxHeartbeats 1000000
theorem sem_valsK {P:Program} {f:Nat} [e:Enters P f] {ds:List D} {us:List Value} {d:D} {v:Value} (hv:valsOf ds=some us) (hc:d.calm=true) (hz:∀ lim w,Fz lim w v d) (h:∀ w,Calls P f us.toArray w fun e w'=>e=.returned v∧Ext w w'):Sem P f ds d:=
 ⟨e,hc,fun S w vs hw hl hr=>by
  obtain rfl:=vals_eq (q:=fun i=>.slot i) hv hl hr
  exact (h w).mono fun e w' ⟨he,hx⟩=>⟨v,S,he,(PT.ext' hw hx).wf,(PT.ext' hw hx).trans,.fz (hz _ _)⟩⟩
def capB (c:UInt8):Bool:=decide (65≤c.toNat) && decide (c.toNat≤90)
def tagByte (c:UInt8):Bool:=capB c || (decide (48≤c.toNat) && decide (c.toNat≤57))
def headB:Str→Bool
 |c::_=>capB c
 |[]=>true
def isTagB (s:Str):Bool:=decide (2≤s.length) && decide (s.length≤6) && headB s && s.all tagByte
def capitals:Str := [65,66,67,68,69,70,71,72,73,74,75,76,77,78,79,80,81,82,83,84,85,86,87,88,89,90]
def tagSet:Str := [65,66,67,68,69,70,71,72,73,74,75,76,77,78,79,80,81,82,83,84,85,86,87,88,89,90,48,49,50,51,52,53,54,55,56,57]
theorem dropWhile_nilK {α:Type} (p:α→Bool) (l:List α):l.dropWhile p = []↔l.all p=true:=by
 induction l with
 |nil=>simp
 |cons a l ih=>simp only [List.dropWhile_cons,List.all_cons];split<;>simp_all
theorem trimS_nilK (l cs:List UInt8):Lib.trimS l cs = []↔l.all (cs.contains ·)=true:=by
 unfold Lib.trimS Lib.trimLeftS
 rw [dropWhile_nilK]
 constructor
 ·intro h
  unfold Lib.trimRightS at h
  rw [List.all_reverse] at h
  have key:∀ m:List UInt8,(m.dropWhile (cs.contains ·)).all (cs.contains ·)=true→m.all (cs.contains ·)=true:=by
   intro m
   induction m with
   |nil=>simp
   |cons a m ih=>
    intro h
    simp only [List.dropWhile_cons] at h
    split at h
    ·rename_i ha
     rw [List.all_cons,ha,ih h]
     rfl
    ·exact h
  have:=key l.reverse h
  rwa [List.all_reverse] at this
 ·intro h
  unfold Lib.trimRightS
  rw [(dropWhile_nilK _ _).2 (by rw [List.all_reverse];exact h)]
  rfl
theorem tagSet_contains (c:UInt8):tagSet.contains c=tagByte c:=by
 have:∀ n:Fin 256,tagSet.contains (UInt8.ofNat n.val)=tagByte (UInt8.ofNat n.val):=by decide +kernel
 have h:=this ⟨c.toNat,c.toNat_lt⟩
 simpa using h
theorem cap_index (c:UInt8):decide (0≤Lib.indexByte capitals c)=capB c:=by
 have:∀ n:Fin 256,decide (0≤Lib.indexByte capitals (UInt8.ofNat n.val))=capB (UInt8.ofNat n.val):=by decide +kernel
 have h:=this ⟨c.toNat,c.toNat_lt⟩
 simpa using h
theorem trim_tag (s:Str):(Lib.trimS s tagSet == [])=s.all tagByte:=by
 have h1:=trimS_nilK s tagSet
 have h2:s.all (tagSet.contains ·)=s.all tagByte:=by
  congr 1
  exact funext tagSet_contains
 rw [h2] at h1
 rw [Bool.eq_iff_iff,beq_iff_eq,h1]
theorem trimT_sem (s:Str) (hs:s.length≤9223372036854775807):Sem Tryz.prog 126 [.str s,.str tagSet] (.str (Lib.trimS s tagSet)):=
 sem_valsK (us := [.string ⟨s.toArray⟩,.string ⟨tagSet.toArray⟩]) (v:=.string ⟨(Lib.trimS s tagSet).toArray⟩) rfl rfl (fun _ _=>.str _) fun w=>
  Any.strings_Trim_laid Tryz.lays160 (by kernel_rfl) ⟨s.toArray⟩ ⟨tagSet.toArray⟩ w (by show s.toArray.size≤_;simp;omega) (by decide) (ascii_of_all (by decide))
theorem indexByte_sem (s:Str) (c:UInt8):Sem Tryz.prog 108 [.str s,.int .u8 c.toNat] (.int .i64 (Lib.indexByte s c)):=
 sem_valsK (us := [.string ⟨s.toArray⟩,.int .u8 c.toNat]) (v:=.int .i64 (Lib.indexByte s c)) rfl rfl (fun _ _=>.int _ _) fun w=>by
  refine (Tryz.strings_IndexByte ⟨s.toArray⟩ c.toNat w).mono fun e w' ⟨h1,h2⟩=>⟨?_,h2 ▸ Ext.refl _⟩
  rw [h1]
  simp
theorem isTagPart_sem (s:Str) (hs:s.length≤9223372036854775807):Sem Tryz.prog 128 [.str s] (.bool (s.all tagByte)):=by
 have h:=trim_tag s
 generalize s.all tagByte=r at h ⊢
 refine si [] Tryz.func128 ?_
 repeat'((conv=>whnf);first|(try(first|apply eN|apply eC);conv=>whnf);apply sD;(focus first|(refine gx (trimT_sem s hs)<;>exact pre)|exact side)|apply rR|apply rE|apply rH| (apply cD<;>intro hb<;>(try simp only[SPLT]at hb)<;>try exact noB))
 all_goals try exact false
 repeat' ((conv=>whnf);first|exact endR|with_reducible first|apply And.intro|apply oR|apply oN|apply dC)
 all_goals (conv=>whnf)
 exact rle_bool h
theorem isTag_sem (s:Str) (hs:s.length≤9223372036854775807):Sem Tryz.prog 102 [.str s] (.bool (isTagB s)):=by
 have hp:=isTagPart_sem s hs
 cases s with
 |nil=>
  have hi:=indexByte_sem capitals 0
  refine si [] Tryz.func102 ?_
  repeat'((conv=>whnf);first|(try(first|apply eN|apply eC);conv=>whnf);apply sD;(focus(try intro hc;have hc0:=hc;(try simp only[SPLT]at hc);try refine and0 ?_);first|exact gx hp|exact gx hi|(refine gx (indexByte_sem ?_ ?_)<;>exact pre)|(refine gx (isTagPart_sem ?_ ?_)<;>exact pre)|exact sideG)|apply rR|apply rE|apply rH| (apply cD<;>intro hb<;>(try simp only[SPLT]at hb)<;>try exact noB))
  all_goals try exact false
  exact finR
 |cons c t=>
  have hi:=indexByte_sem capitals c
  have hc:=cap_index c
  generalize Lib.indexByte capitals c=i at hi hc
  have he:isTagB (c::t)=(decide (2≤(c::t).length) && decide ((c::t).length≤6) && capB c && (c::t).all tagByte):=rfl
  rw [he]
  generalize (c::t).all tagByte=r at hp ⊢
  refine si [] Tryz.func102 ?_
  repeat'((conv=>whnf);first|(try(first|apply eN|apply eC);conv=>whnf);apply sD;(focus(try intro hc;have hc0:=hc;(try simp only[SPLT]at hc);try refine and0 ?_);first|exact gx hp|exact gx hi|(refine gx (indexByte_sem ?_ ?_)<;>exact pre)|(refine gx (isTagPart_sem ?_ ?_)<;>exact pre)|exact sideG)|apply rR|apply rE|apply rH| (apply cD<;>intro hb<;>(try simp only[SPLT]at hb)<;>try exact noB))
  all_goals try exact false
  repeat' ((conv=>whnf);first|exact endR|with_reducible first|apply And.intro|apply oR|apply oN|apply dC)
  all_goals (conv=>whnf)
  refine rle_bool ?_
  rw [← hc]
  congr 3
  ·exact decide_eq_decide.2 (by omega)
  ·exact decide_eq_decide.2 (by omega)
theorem within_sem (n a b:Int):Sem Tryz.prog 59 [.int .i64 n,.int .i64 a,.int .i64 b] (.bool (decide (a≤n) && decide (n≤b))):=by
 refine si [] Tryz.func59 ?_
 repeat'((conv=>whnf);first|(try(first|apply eN);conv=>whnf);apply sD;(focus(try intro hc;have hc0:=hc;(try simp only[SPLT]at hc);try refine and0 ?_);first|exact sideG)|apply rR|apply rE|apply rH| (apply cD<;>intro hb<;>(try simp only[SPLT]at hb)<;>try exact noB))
 all_goals try exact false
 exact finR
theorem outsideK_sem (n a b:Int):Sem Tryz.prog 51 [.int .i64 n,.int .i64 a,.int .i64 b] (.bool (decide (n < a) || decide (b < n))):=by
 refine si [] Tryz.func51 ?_
 repeat'((conv=>whnf);first|(try(first|apply eN);conv=>whnf);apply sD;(focus(try intro hc;have hc0:=hc;(try simp only[SPLT]at hc);try refine and0 ?_);first|exact sideG)|apply rR|apply rE|apply rH| (apply cD<;>intro hb<;>(try simp only[SPLT]at hb)<;>try exact noB))
 all_goals try exact false
 exact finR
theorem begins_sem (s:Str) (hs:s.length≤9223372036854775807):Sem Tryz.prog 132 [.str s] (.bool (headB s && s.all tagByte && decide (s.length≤6))):=by
 have hd:∀ c,s[0]?=some c→headB s=capB c:=by
  intro c hc
  cases s with
  |nil=>simp at hc
  |cons x t=>simp at hc;rw [hc];rfl
 have h0:s.length=0→headB s=true:=by
  intro h
  obtain rfl:s = []:=List.eq_nil_of_length_eq_zero h
  rfl
 generalize headB s=r at hd h0 ⊢
 refine si [] Tryz.func132 ?_
 repeat'((conv=>whnf);first|(try(first|apply eN|apply eC);conv=>whnf);apply sD;(focus(try intro hc;have hc0:=hc;(try simp only[SPLT]at hc);try refine and0 ?_);first|exact sideG)|apply rR|apply rE|apply rH| (apply cD<;>intro hb<;>(try simp only[SPLT]at hb)<;>try exact noB))
 all_goals try exact false
 refine loop_go (M:=fun t=>mem t []) hT hM (fun k:Nat => [(3,.int .i64 k)]) (fun k=>k≤s.length∧(s.take k).all tagByte=true∧(0 < k→r=true)) (fun k=>s.length - k) (0) ?_ ?_ ?_
 ·exact finF
 ·exact ⟨by omega,rfl,by omega⟩
 ·rintro k ⟨hk,hall,hr⟩
  cases hx:s[k]? with
  |none=>
   have hn:=List.getElem?_eq_none_iff.1 hx
   repeat'((conv=>whnf);first|(try(first|apply eN|apply eC);conv=>whnf);apply sD;(focus(try intro hc;have hc0:=hc;(try simp only[SPLT]at hc);try refine and0 ?_);first|exact sideG)|apply rR|apply rE|apply rH| (apply cD<;>intro hb<;>(try simp only[SPLT]at hb)<;>try exact noB))
   all_goals try exact false
   repeat' ((conv=>whnf);first|exact endR|with_reducible first|apply And.intro|apply oR|apply oN|apply dC)
   all_goals (conv=>whnf)
   refine rle_bool ?_
   rw [List.take_of_length_le hn] at hall
   have hr':r=true:=by
    rcases Nat.eq_zero_or_pos k with e|e
    ·exact h0 (by omega)
    ·exact hr e
   rw [hall,hr']
   simp
   omega
  |some x=>
   have hlt:=(gLt hx)
   have hx1:=(List.getElem?_eq_some_iff.1 hx).2
   repeat'((conv=>whnf);first|(try(first|apply eN|apply eC);conv=>whnf);apply sD;(focus(try intro hc;have hc0:=hc;(try simp only[SPLT]at hc);try refine and0 ?_);first|exact sideG)|apply rR|apply rE|apply rH| (apply cD<;>intro hb<;>(try simp only[SPLT]at hb)<;>try exact noB))
   all_goals try exact false
   ·repeat' ((conv=>whnf);first|exact endR|with_reducible first|apply And.intro|apply oR|apply oN|apply dC)
    all_goals (conv=>whnf)
    refine rle_bool (Eq.symm ?_)
    simp [List.getD_eq_getElem?_getD,hx] at hb
    have hh:(r && s.all tagByte)=false:=by
     rcases Nat.eq_zero_or_pos k with e|e
     ·subst e
      rw [hd x hx]
      have:capB x=false:=by simp [capB];omega
      rw [this,Bool.false_and]
     ·have:tagByte x=false:=by simp [tagByte,capB];omega
      rw [Bool.and_eq_false_iff]
      refine .inr ?_
      rw [List.all_eq_false]
      exact ⟨x,gMem hx,by simp [this]⟩
    rw [hh,Bool.false_and]
   all_goals (
    refine ⟨k+1,⟨by omega,?_,fun _ => ?_⟩,by omega,?_⟩
    ·simp [List.getD_eq_getElem?_getD,hx] at hb
     have:tagByte x=true:=by simp [tagByte,capB];omega
     rw [take_at hx,List.all_append,hall]
     simp [this]
    ·simp [List.getD_eq_getElem?_getD,hx] at hb
     rcases Nat.eq_zero_or_pos k with e|e
     ·subst e
      rw [hd x hx]
      simp [capB]
      omega
     ·exact hr e
    ·(conv=>whnf)
     refine ⟨?_,by rfl⟩
     repeat' ((conv=>whnf);first|exact DLes.nil|with_reducible exact DLe.refl _|exact DLe.any _|with_reducible apply dC|exact DLe.refl _|exact dle_int (by omega)))
theorem isTag2_sem (s:Str) (hs:s.length≤9223372036854775807):Sem Tryz.prog 106 [.str s] (.bool (isTagB s)):=by
 have h:=begins_sem s hs
 unfold isTagB
 generalize headB s=r at h ⊢
 generalize s.all tagByte=q at h ⊢
 refine si [] Tryz.func106 ?_
 repeat'((conv=>whnf);first|(try(first|apply eN|apply eC);conv=>whnf);apply sD;(focus(try intro hc;have hc0:=hc;(try simp only[SPLT]at hc);try refine and0 ?_);first|exact gx h|(refine gx (begins_sem ?_ ?_)<;>exact pre)|exact sideG)|apply rR|apply rE|apply rH| (apply cD<;>intro hb<;>(try simp only[SPLT]at hb)<;>try exact noB))
 all_goals try exact false
 repeat' ((conv=>whnf);first|exact endR|with_reducible first|apply And.intro|apply oR|apply oN|apply dC)
 all_goals (conv=>whnf)
 refine rle_bool ?_
 rw [show decide ((2:Int)≤s.length)=decide (2≤s.length) from decide_eq_decide.2 (by omega)]
 cases decide (2≤s.length)<;>cases r<;>cases q<;>simp
end Go.Proofs.YtindehjiaknokaaGreatDoor
