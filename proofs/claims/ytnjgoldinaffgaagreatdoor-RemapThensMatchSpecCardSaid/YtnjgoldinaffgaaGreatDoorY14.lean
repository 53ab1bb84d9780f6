/- Tags: what they are, and the walks. -/
import Derived.Test.YtnjgoldinaffgaaGreatDoorY12
import Derived.Test.YtnjgoldinaffgaaGreatDoorY13
namespace Go.Proofs.YtnjgoldinaffgaaGreatDoor
open _root_.Go.Proofs.Tryz
set_option linter.unusedSimpArgs false
set_option linter.unusedVariables false
open Go.RowKit
set_option maxRecDepth 100000
set_option maxHeartbeats 1000000
theorem lT {P:Program} {f:Nat} [e:Enters P f] {ds:List D} {us:List Value} {d:D} {v:Value} (hv:tN ds=some us) (hc:d.calm=true) (hz:∀ lim w,Fz lim w v d) (h:∀ w,Calls P f us.toArray w fun e w'=>e=.returned v∧Ext w w'):Sem P f ds d:=
 ⟨e,hc,fun S w vs hw hl hr=>by
  obtain rfl:=rV (q:=fun i=>.slot i) hv hl hr
  exact (h w).mono fun e w' ⟨he,hx⟩=>⟨v,S,he,(PT.ext' hw hx).wf,(PT.ext' hw hx).trans,.fz (hz _ _)⟩⟩
def zT (c:UInt8):Bool:=decide (65≤c.toNat) && decide (c.toNat≤90)
def dQ (c:UInt8):Bool:=zT c || (decide (48≤c.toNat) && decide (c.toNat≤57))
def zBd:Str→Bool
 |c::_=>zT c
 |[]=>true
def cA (s:Str):Bool:=decide (2≤s.length) && decide (s.length≤6) && zBd s && s.all dQ
def pH:Str := [65,66,67,68,69,70,71,72,73,74,75,76,77,78,79,80,81,82,83,84,85,86,87,88,89,90]
def tagSet:Str := [65,66,67,68,69,70,71,72,73,74,75,76,77,78,79,80,81,82,83,84,85,86,87,88,89,90,48,49,50,51,52,53,54,55,56,57]
theorem pB {α:Type} (p:α→Bool) (l:List α):l.dropWhile p = []↔l.all p=true:=by
 induction l with
 |nil=>simp
 |cons a l ih=>simp only [List.dropWhile_cons,List.all_cons];split<;>simp_all
theorem xE (l cs:List UInt8):Lib.trimS l cs = []↔l.all (cs.contains ·)=true:=by
 unfold Lib.trimS Lib.trimLeftS
 rw [pB]
 constructor
 ·intro h
  unfold Lib.trimRightS at h
  rw [List.all_reverse] at h
  have key:∀ m:List UInt8,(m.dropWhile (cs.contains ·)).all (cs.contains ·)=true→m.all (cs.contains ·)=true:=by
   intro m
   induction m with
   |nil=>simp
   |cons a m ih=>
    intro h
    simp only [List.dropWhile_cons] at h
    split at h
    ·rename_i ha
     rw [List.all_cons,ha,ih h]
     rfl
    ·exact h
  have:=key l.reverse h
  rwa [List.all_reverse] at this
 ·intro h
  unfold Lib.trimRightS
  rw [(pB _ _).2 (by rw [List.all_reverse];exact h)]
  rfl
theorem wH (c:UInt8):tagSet.contains c=dQ c:=by
 have:∀ n:Fin 256,tagSet.contains (UInt8.ofNat n.val)=dQ (UInt8.ofNat n.val):=by decide +kernel
 have h:=this ⟨c.toNat,c.toNat_lt⟩
 simpa using h
theorem zHB (c:UInt8):decide (0≤Lib.indexByte pH c)=zT c:=by
 have:∀ n:Fin 256,decide (0≤Lib.indexByte pH (UInt8.ofNat n.val))=zT (UInt8.ofNat n.val):=by decide +kernel
 have h:=this ⟨c.toNat,c.toNat_lt⟩
 simpa using h
theorem zHS (s:Str):(Lib.trimS s tagSet == [])=s.all dQ:=by
 have h1:=xE s tagSet
 have h2:s.all (tagSet.contains ·)=s.all dQ:=by
  congr 1
  exact funext wH
 rw [h2] at h1
 rw [Bool.eq_iff_iff,beq_iff_eq,h1]
theorem tQ (s:Str) (hs:s.length≤9223372036854775807):Sem Tryz.prog 67 [.str s,.str tagSet] (.str (Lib.trimS s tagSet)):=
 lT (us := [.string ⟨s.toArray⟩,.string ⟨tagSet.toArray⟩]) (v:=.string ⟨(Lib.trimS s tagSet).toArray⟩) rfl rfl (fun _ _=>.str _) fun w=>
  Any.strings_Trim_laid zFP (by kernel_rfl) ⟨s.toArray⟩ ⟨tagSet.toArray⟩ w (by show s.toArray.size≤_;simp;omega) (by decide) (ascii_of_all (by decide))
theorem iP (s:Str) (c:UInt8):Sem Tryz.prog 130 [.str s,.int .u8 c.toNat] (.int .i64 (Lib.indexByte s c)):=
 lT (us := [.string ⟨s.toArray⟩,.int .u8 c.toNat]) (v:=.int .i64 (Lib.indexByte s c)) rfl rfl (fun _ _=>.int _ _) fun w=>by
  refine (Tryz.strings_IndexByte ⟨s.toArray⟩ c.toNat w).mono fun e w' ⟨h1,h2⟩=>⟨?_,h2 ▸ Ext.refl _⟩
  rw [h1]
  simp
theorem lL (s:Str) (hs:s.length≤9223372036854775807):Sem Tryz.prog 131 [.str s] (.bool (s.all dQ)):=by
 have h:=zHS s
 generalize s.all dQ=r at h ⊢
 refine si [] func131 ?_
 repeat'((conv=>whnf);first|(try(first|apply eN|apply eC);conv=>whnf);apply sD;(focus first|(refine gx (tQ s hs)<;>exact pre)|exact bV)|apply rR|apply rE|apply rH| (apply cD<;>intro hb<;>(try simp only[aA]at hb)<;>try exact aM))
 all_goals try exact false
 repeat' ((conv=>whnf);first|exact aI|with_reducible first|apply And.intro|apply oR|apply oN|apply dC)
 all_goals (conv=>whnf)
 exact aS h
theorem mE (s:Str) (hs:s.length≤9223372036854775807):Sem Tryz.prog 85 [.str s] (.bool (cA s)):=by
 have hp:=lL s hs
 cases s with
 |nil=>
  have hi:=iP pH 0
  refine si [] func85 ?_
  repeat'((conv=>whnf);first|(try(first|apply eN|apply eT|apply eC);conv=>whnf);apply sD;(focus(try intro hc;have hc0:=hc;(try simp only[aA]at hc);try refine aE ?_);first|exact gx hp|exact gx hi|(refine gx (iP ?_ ?_)<;>exact pre)|(refine gx (lL ?_ ?_)<;>exact pre)|exact aC)|apply rR|apply rE|apply rH| (apply cD<;>intro hb<;>(try simp only[aA]at hb)<;>try exact aM))
  all_goals try exact false
  exact aT
 |cons c t=>
  have hi:=iP pH c
  have hc:=zHB c
  generalize Lib.indexByte pH c=i at hi hc
  have he:cA (c::t)=(decide (2≤(c::t).length) && decide ((c::t).length≤6) && zT c && (c::t).all dQ):=rfl
  rw [he]
  generalize (c::t).all dQ=r at hp ⊢
  refine si [] func85 ?_
  repeat'((conv=>whnf);first|(try(first|apply eN|apply eT|apply eC);conv=>whnf);apply sD;(focus(try intro hc;have hc0:=hc;(try simp only[aA]at hc);try refine aE ?_);first|exact gx hp|exact gx hi|(refine gx (iP ?_ ?_)<;>exact pre)|(refine gx (lL ?_ ?_)<;>exact pre)|exact aC)|apply rR|apply rE|apply rH| (apply cD<;>intro hb<;>(try simp only[aA]at hb)<;>try exact aM))
  all_goals try exact false
  repeat' ((conv=>whnf);first|exact aI|with_reducible first|apply And.intro|apply oR|apply oN|apply dC)
  all_goals (conv=>whnf)
  refine aS ?_
  rw [← hc]
  congr 3
  ·exact decide_eq_decide.2 (by omega)
  ·exact decide_eq_decide.2 (by omega)
theorem iF (n a b:Int):Sem Tryz.prog 220 [.int .i64 n,.int .i64 a,.int .i64 b] (.bool (decide (a≤n) && decide (n≤b))):=by
 refine si [] func220 ?_
 repeat'((conv=>whnf);first|(try(first|apply eN);conv=>whnf);apply sD;(focus(try intro hc;have hc0:=hc;(try simp only[aA]at hc);try refine aE ?_);first|exact aC)|apply rR|apply rE|apply rH| (apply cD<;>intro hb<;>(try simp only[aA]at hb)<;>try exact aM))
 all_goals try exact false
 exact aT
theorem bJ (n a b:Int):Sem Tryz.prog 87 [.int .i64 n,.int .i64 a,.int .i64 b] (.bool (decide (n < a) || decide (b < n))):=by
 refine si [] func87 ?_
 repeat'((conv=>whnf);first|(try(first|apply eN);conv=>whnf);apply sD;(focus(try intro hc;have hc0:=hc;(try simp only[aA]at hc);try refine aE ?_);first|exact aC)|apply rR|apply rE|apply rH| (apply cD<;>intro hb<;>(try simp only[aA]at hb)<;>try exact aM))
 all_goals try exact false
 exact aT
theorem zX (s:Str) (hs:s.length≤9223372036854775807):Sem Tryz.prog 148 [.str s] (.bool (zBd s && s.all dQ && decide (s.length≤6))):=by
 have hd:∀ c,s[0]?=some c→zBd s=zT c:=by
  intro c hc
  cases s with
  |nil=>simp at hc
  |cons x t=>simp at hc;rw [hc];rfl
 have h0:s.length=0→zBd s=true:=by
  intro h
  obtain rfl:s = []:=List.eq_nil_of_length_eq_zero h
  rfl
 generalize zBd s=r at hd h0 ⊢
 refine si [] func148 ?_
 repeat'((conv=>whnf);first|(try(first|apply eN|apply eT|apply eC);conv=>whnf);apply sD;(focus(try intro hc;have hc0:=hc;(try simp only[aA]at hc);try refine aE ?_);first|exact aC)|apply rR|apply rE|apply rH| (apply cD<;>intro hb<;>(try simp only[aA]at hb)<;>try exact aM))
 all_goals try exact false
 refine aL (M:=fun t=>gF t []) hT hM (fun k:Nat => [(3,.int .i64 k)]) (fun k=>k≤s.length∧(s.take k).all dQ=true∧(0 < k→r=true)) (fun k=>s.length - k) (0) ?_ ?_ ?_
 ·exact aV
 ·exact ⟨by omega,rfl,by omega⟩
 ·rintro k ⟨hk,hall,hr⟩
  cases hx:s[k]? with
  |none=>
   have hn:=List.getElem?_eq_none_iff.1 hx
   repeat'((conv=>whnf);first|(try(first|apply eN|apply eT|apply eC);conv=>whnf);apply sD;(focus(try intro hc;have hc0:=hc;(try simp only[aA]at hc);try refine aE ?_);first|exact aC)|apply rR|apply rE|apply rH| (apply cD<;>intro hb<;>(try simp only[aA]at hb)<;>try exact aM))
   all_goals try exact false
   repeat' ((conv=>whnf);first|exact aI|with_reducible first|apply And.intro|apply oR|apply oN|apply dC)
   all_goals (conv=>whnf)
   refine aS ?_
   rw [List.take_of_length_le hn] at hall
   have hr':r=true:=by
    rcases Nat.eq_zero_or_pos k with e|e
    ·exact h0 (by omega)
    ·exact hr e
   rw [hall,hr']
   simp
   omega
  |some x=>
   have hlt:=(bC hx)
   have hx1:=(List.getElem?_eq_some_iff.1 hx).2
   repeat'((conv=>whnf);first|(try(first|apply eN|apply eT|apply eC);conv=>whnf);apply sD;(focus(try intro hc;have hc0:=hc;(try simp only[aA]at hc);try refine aE ?_);first|exact aC)|apply rR|apply rE|apply rH| (apply cD<;>intro hb<;>(try simp only[aA]at hb)<;>try exact aM))
   all_goals try exact false
   ·repeat' ((conv=>whnf);first|exact aI|with_reducible first|apply And.intro|apply oR|apply oN|apply dC)
    all_goals (conv=>whnf)
    refine aS (Eq.symm ?_)
    simp [List.getD_eq_getElem?_getD,hx] at hb
    have hh:(r && s.all dQ)=false:=by
     rcases Nat.eq_zero_or_pos k with e|e
     ·subst e
      rw [hd x hx]
      have:zT x=false:=by simp [zT];omega
      rw [this,Bool.false_and]
     ·have:dQ x=false:=by simp [dQ,zT];omega
      rw [Bool.and_eq_false_iff]
      refine .inr ?_
      rw [List.all_eq_false]
      exact ⟨x,aK hx,by simp [this]⟩
    rw [hh,Bool.false_and]
   all_goals (
    refine ⟨k+1,⟨by omega,?_,fun _ => ?_⟩,by omega,?_⟩
    ·simp [List.getD_eq_getElem?_getD,hx] at hb
     have:dQ x=true:=by simp [dQ,zT];omega
     rw [eZ hx,List.all_append,hall]
     simp [this]
    ·simp [List.getD_eq_getElem?_getD,hx] at hb
     rcases Nat.eq_zero_or_pos k with e|e
     ·subst e
      rw [hd x hx]
      simp [zT]
      omega
     ·exact hr e
    ·(conv=>whnf)
     refine ⟨?_,by rfl⟩
     repeat' ((conv=>whnf);first|exact DLes.nil|with_reducible exact DLe.refl _|exact DLe.any _|with_reducible apply dC|exact DLe.refl _|exact cT (by omega)))
theorem mZ (s:Str) (hs:s.length≤9223372036854775807):Sem Tryz.prog 101 [.str s] (.bool (cA s)):=by
 have h:=zX s hs
 unfold cA
 generalize zBd s=r at h ⊢
 generalize s.all dQ=q at h ⊢
 refine si [] func101 ?_
 repeat'((conv=>whnf);first|(try(first|apply eN|apply eC);conv=>whnf);apply sD;(focus(try intro hc;have hc0:=hc;(try simp only[aA]at hc);try refine aE ?_);first|exact gx h|(refine gx (zX ?_ ?_)<;>exact pre)|exact aC)|apply rR|apply rE|apply rH| (apply cD<;>intro hb<;>(try simp only[aA]at hb)<;>try exact aM))
 all_goals try exact false
 repeat' ((conv=>whnf);first|exact aI|with_reducible first|apply And.intro|apply oR|apply oN|apply dC)
 all_goals (conv=>whnf)
 refine aS ?_
 rw [show decide ((2:Int)≤s.length)=decide (2≤s.length) from decide_eq_decide.2 (by omega)]
 cases decide (2≤s.length)<;>cases r<;>cases q<;>simp
end Go.Proofs.YtnjgoldinaffgaaGreatDoor
