/- Tags: what they are, and the walks. -/
import Derived.Test.YtindehjiaknokaaGreatDoorY8
import Derived.Test.YtindehjiaknokaaGreatDoorY9
namespace Go.Proofs.YtindehjiaknokaaGreatDoor
set_option linter.unusedSimpArgs false
set_option linter.unusedVariables false
open Go.RowKit
set_option maxRecDepth 100000
set_option maxHeartbeats 1000000
theorem sem_valsK {P:Program} {f:Nat} [e:Enters P f] {ds:List D} {us:List Value} {d:D} {v:Value} (hv:valsOf ds=some us) (hc:d.calm=true) (hz:∀ lim w,Fz lim w v d) (h:∀ w,Calls P f us.toArray w fun e w'=>e=.returned v∧Ext w w'):Sem P f ds d:=
 ⟨e,hc,fun S w vs hw hl hr=>by
  obtain rfl:=vals_eq (q:=fun i=>.slot i) hv hl hr
  exact (h w).mono fun e w' ⟨he,hx⟩=>⟨v,S,he,(PT.ext' hw hx).wf,(PT.ext' hw hx).trans,.fz (hz _ _)⟩⟩
def capB (c:UInt8):Bool:=decide (65≤c.toNat) && decide (c.toNat≤90)
def tagByte (c:UInt8):Bool:=capB c || (decide (48≤c.toNat) && decide (c.toNat≤57))
def headB:Str→Bool
 |c::_=>capB c
 |[]=>true
def isTagB (s:Str):Bool:=decide (2≤s.length) && decide (s.length≤6) && headB s && s.all tagByte
def capitals:Str := [65,66,67,68,69,70,71,72,73,74,75,76,77,78,79,80,81,82,83,84,85,86,87,88,89,90]
def tagSet:Str := [65,66,67,68,69,70,71,72,73,74,75,76,77,78,79,80,81,82,83,84,85,86,87,88,89,90,48,49,50,51,52,53,54,55,56,57]
theorem dropWhile_nilK {α:Type} (p:α→Bool) (l:List α):l.dropWhile p = []↔l.all p=true:=by
 induction l with
 |nil=>simp
 |cons a l ih=>simp only [List.dropWhile_cons,List.all_cons];split<;>simp_all
theorem trimS_nilK (l cs:List UInt8):Lib.trimS l cs = []↔l.all (cs.contains ·)=true:=by
 unfold Lib.trimS Lib.trimLeftS
 rw [dropWhile_nilK]
 constructor
 ·intro h
  unfold Lib.trimRightS at h
  rw [List.all_reverse] at h
  have key:∀ m:List UInt8,(m.dropWhile (cs.contains ·)).all (cs.contains ·)=true→m.all (cs.contains ·)=true:=by
   intro m
   induction m with
   |nil=>simp
   |cons a m ih=>
    intro h
    simp only [List.dropWhile_cons] at h
    split at h
    ·rename_i ha
     rw [List.all_cons,ha,ih h]
     rfl
    ·exact h
  have:=key l.reverse h
  rwa [List.all_reverse] at this
 ·intro h
  unfold Lib.trimRightS
  rw [(dropWhile_nilK _ _).2 (by rw [List.all_reverse];exact h)]
  rfl
theorem tagSet_contains (c:UInt8):tagSet.contains c=tagByte c:=by
 have:∀ n:Fin 256,tagSet.contains (UInt8.ofNat n.val)=tagByte (UInt8.ofNat n.val):=by decide +kernel
 have h:=this ⟨c.toNat,c.toNat_lt⟩
 simpa using h
theorem cap_index (c:UInt8):decide (0≤Lib.indexByte capitals c)=capB c:=by
 have:∀ n:Fin 256,decide (0≤Lib.indexByte capitals (UInt8.ofNat n.val))=capB (UInt8.ofNat n.val):=by decide +kernel
 have h:=this ⟨c.toNat,c.toNat_lt⟩
 simpa using h
theorem trim_tag (s:Str):(Lib.trimS s tagSet == [])=s.all tagByte:=by
 have h1:=trimS_nilK s tagSet
 have h2:s.all (tagSet.contains ·)=s.all tagByte:=by
  congr 1
  exact funext tagSet_contains
 rw [h2] at h1
 rw [Bool.eq_iff_iff,beq_iff_eq,h1]
theorem trimT_sem (s:Str) (hs:s.length≤9223372036854775807):Sem Tryz.prog 126 [.str s,.str tagSet] (.str (Lib.trimS s tagSet)):=
 sem_valsK (us := [.string ⟨s.toArray⟩,.string ⟨tagSet.toArray⟩]) (v:=.string ⟨(Lib.trimS s tagSet).toArray⟩) rfl rfl (fun _ _=>.str _) fun w=>
  Any.strings_Trim_laid Tryz.lays160 (by kernel_rfl) ⟨s.toArray⟩ ⟨tagSet.toArray⟩ w (by show s.toArray.size≤_;simp;omega) (by decide) (ascii_of_all (by decide))
theorem indexByte_sem (s:Str) (c:UInt8):Sem Tryz.prog 108 [.str s,.int .u8 c.toNat] (.int .i64 (Lib.indexByte s c)):=
 sem_valsK (us := [.string ⟨s.toArray⟩,.int .u8 c.toNat]) (v:=.int .i64 (Lib.indexByte s c)) rfl rfl (fun _ _=>.int _ _) fun w=>by
  refine (Tryz.strings_IndexByte ⟨s.toArray⟩ c.toNat w).mono fun e w' ⟨h1,h2⟩=>⟨?_,h2 ▸ Ext.refl _⟩
  rw [h1]
  simp
theorem isTagPart_sem (s:Str) (hs:s.length≤9223372036854775807):Sem Tryz.prog 128 [.str s] (.bool (s.all tagByte)):=by
 have h:=trim_tag s
 generalize s.all tagByte=r at h ⊢
 refine si [] Tryz.func128 ?_
 repeat'((conv=>whnf);first|(try(first|apply eN|apply eC);conv=>whnf);apply sD;(focus first|(refine gx (trimT_sem s hs)<;>exact pre)|exact side)|apply rR|apply rE|apply rH| (apply cD<;>intro hb<;>(try simp only[SPLT]at hb)<;>try exact noB))
 all_goals try exact false
 repeat' ((conv=>whnf);first|exact endR|with_reducible first|apply And.intro|apply oR|apply oN|apply dC)
 all_goals (conv=>whnf)
 exact rle_bool h
theorem isTag_sem (s:Str) (hs:s.length≤9223372036854775807):Sem Tryz.prog 102 [.str s] (.bool (isTagB s)):=by
 have hp:=isTagPart_sem s hs
 cases s with
 |nil=>
  have hi:=indexByte_sem capitals 0
  refine si [] Tryz.func102 ?_
  repeat'((conv=>whnf);first|(try(first|apply eN|apply eC);conv=>whnf);apply sD;(focus(try intro hc;have hc0:=hc;(try simp only[SPLT]at hc);try refine and0 ?_);first|exact gx hp|exact gx hi|(refine gx (indexByte_sem ?_ ?_)<;>exact pre)|(refine gx (isTagPart_sem ?_ ?_)<;>exact pre)|exact sideG)|apply rR|apply rE|apply rH| (apply cD<;>intro hb<;>(try simp only[SPLT]at hb)<;>try exact noB))
  all_goals try exact false
  exact finR
 |cons c t=>
  have hi:=indexByte_sem capitals c
  have hc:=cap_index c
  generalize Lib.indexByte capitals c=i at hi hc
  have he:isTagB (c::t)=(decide (2≤(c::t).length) && decide ((c::t).length≤6) && capB c && (c::t).all tagByte):=rfl
  rw [he]
  generalize (c::t).all tagByte=r at hp ⊢
  refine si [] Tryz.func102 ?_
  repeat'((conv=>whnf);first|(try(first|apply eN|apply eC);conv=>whnf);apply sD;(focus(try intro hc;have hc0:=hc;(try simp only[SPLT]at hc);try refine and0 ?_);first|exact gx hp|exact gx hi|(refine gx (indexByte_sem ?_ ?_)<;>exact pre)|(refine gx (isTagPart_sem ?_ ?_)<;>exact pre)|exact sideG)|apply rR|apply rE|apply rH| (apply cD<;>intro hb<;>(try simp only[SPLT]at hb)<;>try exact noB))
  all_goals try exact false
  repeat' ((conv=>whnf);first|exact endR|with_reducible first|apply And.intro|apply oR|apply oN|apply dC)
  all_goals (conv=>whnf)
  refine rle_bool ?_
  rw [← hc]
  congr 3
  ·exact decide_eq_decide.2 (by omega)
  ·exact decide_eq_decide.2 (by omega)
theorem outsideK_sem (n a b:Int):Sem Tryz.prog 51 [.int .i64 n,.int .i64 a,.int .i64 b] (.bool (decide (n < a) || decide (b < n))):=by
 refine si [] Tryz.func51 ?_
 repeat'((conv=>whnf);first|(try(first|apply eN);conv=>whnf);apply sD;(focus(try intro hc;have hc0:=hc;(try simp only[SPLT]at hc);try refine and0 ?_);first|exact sideG)|apply rR|apply rE|apply rH| (apply cD<;>intro hb<;>(try simp only[SPLT]at hb)<;>try exact noB))
 all_goals try exact false
 exact finR
end Go.Proofs.YtindehjiaknokaaGreatDoor
