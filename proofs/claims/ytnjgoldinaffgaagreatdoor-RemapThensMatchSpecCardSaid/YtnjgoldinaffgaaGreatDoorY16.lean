/- Conditions: their ends and their values (walks). Binary search by a key (plain), and strings.Compare. -/
import Derived.Test.YtnjgoldinaffgaaGreatDoorY15
namespace Go.Proofs.YtnjgoldinaffgaaGreatDoor
open _root_.Go.Proofs.Tryz
set_option linter.unusedSimpArgs false
set_option linter.unusedVariables false
open Go.RowKit
set_option maxRecDepth 100000
set_option maxHeartbeats 2000000
def lC (k lo hi:Int):Int:=
 if k=9 then (if lo < -1000000000000∨1000000000000 < lo∨hi < -1000000000000∨1000000000000 < hi then 1 else if hi < lo then 8 else 0)
 else (if lo < 0∨1000000000 < lo∨hi < 0∨1000000000 < hi then 1 else if hi < lo then 8 else 0)
theorem qM (k:Int) (rows:List (List D)) (p:Str) (vs:List (List D)) (lo hi:Int):Sem Tryz.prog 218 [.agg [.int .i64 k,.sl 0 6 rows,.str p,.sl 0 1 vs,.int .i64 lo,.int .i64 hi]] (.int .i64 (lC k lo hi)):=by
 have hf:lC k lo hi=if k=9 then (if lo < -1000000000000∨1000000000000 < lo∨hi < -1000000000000∨1000000000000 < hi then 1 else if hi < lo then 8 else 0)
  else (if lo < 0∨1000000000 < lo∨hi < 0∨1000000000 < hi then 1 else if hi < lo then 8 else 0):=rfl
 generalize lC k lo hi=r at hf ⊢
 have o1:=bJ lo (-1000000000000) 1000000000000
 have o2:=bJ hi (-1000000000000) 1000000000000
 have o3:=bJ lo 0 1000000000
 have o4:=bJ hi 0 1000000000
 refine si [] func218 ?_
 repeat'((conv=>whnf);first|(try(first|apply eN|apply eI|apply eC);conv=>whnf);apply sD;(focus(try intro hc;have hc0:=hc;(try simp only[aA]at hc);try refine aE ?_);first|exact gx o1|exact gx o2|exact gx o3|exact gx o4|(refine gx (bJ ?_ ?_ ?_)<;>exact pre)|exact aC)|apply rR|apply rE|apply rH| (apply cD<;>intro hb<;>(try simp only[aA]at hb)<;>try exact aM))
 all_goals try exact false
 all_goals (
  repeat' ((conv=>whnf);first|exact aI|with_reducible first|apply And.intro|apply oR|apply oN|apply dC)
  all_goals (conv=>whnf)
  refine aJ ?_
  rw [hf]
  split<;>split<;>(try split)<;>omega)
def xM (a b:Int) (s:Str):Bool:=s.all fun c=>decide (a≤c.toNat) && decide ((c.toNat:Int)≤b)
theorem jC (s:Str) (a b:Int) (hs:s.length≤9223372036854775807):Sem Tryz.prog 110 [.str s,.int .u8 a,.int .u8 b] (.bool (xM a b s)):=by
 have hr:xM a b s=s.all fun c=>decide (a≤c.toNat) && decide ((c.toNat:Int)≤b):=rfl
 generalize xM a b s=r at hr ⊢
 refine si [] func110 ?_
 repeat'((conv=>whnf);first|(try(first|apply eN|apply eT|apply eC);conv=>whnf);apply sD;(focus(try intro hc;have hc0:=hc;(try simp only[aA]at hc);try refine aE ?_);first|exact aC)|apply rR|apply rE|apply rH| (apply cD<;>intro hb<;>(try simp only[aA]at hb)<;>try exact aM))
 all_goals try exact false
 refine aL (M:=fun t=>gF t []) hT hM (fun k:Nat => [(10,.int .i64 k)]) (fun k=>k≤s.length∧((s.take k).all fun c=>decide (a≤c.toNat) && decide ((c.toNat:Int)≤b))=true) (fun k=>s.length - k) (0) ?_ ?_ ?_
 ·exact aV
 ·exact ⟨by omega,rfl⟩
 ·rintro k ⟨hk,hall⟩
  cases hx:s[k]? with
  |none=>
   have hn:=List.getElem?_eq_none_iff.1 hx
   rw [List.take_of_length_le hn] at hall
   repeat'((conv=>whnf);first|(try(first|apply eN|apply eT|apply eC);conv=>whnf);apply sD;(focus(try intro hc;have hc0:=hc;(try simp only[aA]at hc);try refine aE ?_);first|exact aC)|apply rR|apply rE|apply rH| (apply cD<;>intro hb<;>(try simp only[aA]at hb)<;>try exact aM))
   all_goals try exact false
   repeat' ((conv=>whnf);first|exact aI|with_reducible first|apply And.intro|apply oR|apply oN|apply dC)
   all_goals (conv=>whnf)
   exact aS (by rw [hr,hall])
  |some x=>
   have hlt:=(bC hx)
   repeat'((conv=>whnf);first|(try(first|apply eN|apply eT|apply eC);conv=>whnf);apply sD;(focus(try intro hc;have hc0:=hc;(try simp only[aA]at hc);try refine aE ?_);first|exact aC)|apply rR|apply rE|apply rH| (apply cD<;>intro hb<;>(try simp only[aA]at hb)<;>try exact aM))
   all_goals try exact false
   ·repeat' ((conv=>whnf);first|exact aI|with_reducible first|apply And.intro|apply oR|apply oN|apply dC)
    all_goals (conv=>whnf)
    refine aS (Eq.symm ?_)
    simp [List.getD_eq_getElem?_getD,hx] at hb
    rw [hr,List.all_eq_false]
    exact ⟨x,aK hx,by simp;omega⟩
   ·refine ⟨k+1,⟨by omega,?_⟩,by omega,?_⟩
    ·simp [List.getD_eq_getElem?_getD,hx] at hb
     rw [eZ hx,List.all_append,hall]
     simp
     omega
    ·exact aV
def dJ (s:Str):Bool:=decide (s.length≤1000) && xM 32 126 s
theorem rI (s:Str) (hs:s.length≤9223372036854775807):Sem Tryz.prog 68 [.str s] (.bool (dJ s)):=by
 have h:=jC s 32 126 hs
 unfold dJ
 generalize xM 32 126 s=r at h ⊢
 refine si [] func68 ?_
 repeat'((conv=>whnf);first|(try(first|apply eN|apply eC);conv=>whnf);apply sD;(focus(try intro hc;have hc0:=hc;(try simp only[aA]at hc);try refine aE ?_);first|exact gx h|(refine gx (jC ?_ ?_ ?_ ?_)<;>exact pre)|exact aC)|apply rR|apply rE|apply rH| (apply cD<;>intro hb<;>(try simp only[aA]at hb)<;>try exact aM))
 all_goals try exact false
 repeat' ((conv=>whnf);first|exact aI|with_reducible first|apply And.intro|apply oR|apply oN|apply dC)
 all_goals (conv=>whnf)
 refine aS ?_
 rw [show decide ((s.length:Int)≤1000)=decide (s.length≤1000) from decide_eq_decide.2 (by omega)]
theorem dU (s:Str):Sem Tryz.prog 68 [.str s] (.bool (dJ s)):=by
 have h:s.length≤1000→Sem Tryz.prog 110 [.str s,.int .u8 32,.int .u8 126] (.bool (xM 32 126 s)):=fun h=>jC s 32 126 (by omega)
 unfold dJ
 generalize xM 32 126 s=r at h ⊢
 refine si [] func68 ?_
 repeat'((conv=>whnf);first|(try(first|apply eN|apply eC);conv=>whnf);apply sD;(focus(try intro hc;have hc0:=hc;(try simp only[aA]at hc);try refine aE ?_);first|(refine gx (h (by omega))<;>exact pre)|(refine gx (jC ?_ ?_ ?_ ?_)<;>exact pre)|exact aC)|apply rR|apply rE|apply rH| (apply cD<;>intro hb<;>(try simp only[aA]at hb)<;>try exact aM))
 all_goals try exact false
 repeat' ((conv=>whnf);first|exact aI|with_reducible first|apply And.intro|apply oR|apply oN|apply dC)
 all_goals (conv=>whnf)
 refine aS ?_
 rw [show decide ((s.length:Int)≤1000)=decide (s.length≤1000) from decide_eq_decide.2 (by omega)]
def fI (prev:Option Str) (s:Str):Bool:=
 match prev with
 |some q=>Op.bytesLess s q || s == q
 |none=>false
def gT (prev:Option Str):List Str→Int
 |[]=>0
 |s::l=>if s = []∨dJ s=false then 3 else if fI prev s=true then 8 else gT (some s) l
def dX (l:List Str):Int:=if l.length=0 then 9 else if 20 < l.length then 2 else gT none l
theorem zFp {l:List Str} {i:Nat} {s:Str} (h:l[i]?=some s) (prev:Option Str):gT prev (l.drop i)=if s = []∨dJ s=false then 3 else if fI prev s=true then 8 else gT (some s) (l.drop (i+1)):=by
 have hlt:=(bC h)
 have h1:l.drop i=s::l.drop (i+1):=by
  rw [List.drop_eq_getElem_cons hlt,(List.getElem?_eq_some_iff.1 h).2]
 rw [h1,gT]
theorem zGb{p:Prop}(h:p:=by first|(refine gx (dU ?_)<;>exact pre)|(refine gx (rI ?_ ?_)<;>exact pre)):p:=h
theorem nE (vs:List Str):Sem Tryz.prog 217 [.sl 0 1 (vs.map fun s => [.str s])] (.int .i64 (dX vs)):=by
 refine gU 0 rfl rfl fun hl => ?_
 rw [List.length_map] at hl
 have he:dX vs=if vs.length=0 then 9 else if 20 < vs.length then 2 else gT none vs:=rfl
 generalize dX vs=e at he ⊢
 refine si [] func217 ?_
 repeat'((conv=>whnf);first|(try(first|apply eN|apply eI|apply eC);conv=>whnf);apply sD;(focus(try intro hc;have hc0:=hc;(try simp only[aA]at hc);try refine aE ?_);first|exact zGb|exact aC)|apply rR|apply rE|apply rH| (apply cD<;>intro hb<;>(try simp only[aA]at hb)<;>try exact aM))
 all_goals try exact false
 ·repeat' ((conv=>whnf);first|exact aI|with_reducible first|apply And.intro|apply oR|apply oN|apply dC)
  all_goals (conv=>whnf)
  exact aJ (by rw [he,if_pos (by omega)])
 ·repeat' ((conv=>whnf);first|exact aI|with_reducible first|apply And.intro|apply oR|apply oN|apply dC)
  all_goals (conv=>whnf)
  exact aJ (by rw [he,if_neg (by omega),if_pos (by omega)])
 ·have he2:e=gT none vs:=by rw [he,if_neg (by omega),if_neg (by omega)]
  clear he
  refine aL (M:=fun t=>gF t []) hT hM (fun i:Nat => [(13,.int .i64 i)]) (fun i=>i≤vs.length∧gT (if i=0 then none else vs[i - 1]?) (vs.drop i)=e) (fun i=>vs.length - i) (0) ?_ ?_ ?_
  ·exact aV
  ·exact ⟨by omega,he2.symm⟩
  ·rintro i ⟨hi,hv⟩
   clear he2
   cases hx:vs[i]? with
   |none=>
    have hn:=List.getElem?_eq_none_iff.1 hx
    rw [List.drop_of_length_le hn] at hv
    repeat'((conv=>whnf);first|(try(first|apply eN|apply eI|apply eC);conv=>whnf);apply sD;(focus(try intro hc;have hc0:=hc;(try simp only[aA]at hc);try refine aE ?_);first|exact zGb|exact aC)|apply rR|apply rE|apply rH| (apply cD<;>intro hb<;>(try simp only[aA]at hb)<;>try exact aM))
    all_goals try exact false
    repeat' ((conv=>whnf);first|exact aI|with_reducible first|apply And.intro|apply oR|apply oN|apply dC)
    all_goals (conv=>whnf)
    exact aJ hv
   |some s=>
    have hlt:=(bC hx)
    rw [zFp hx] at hv
    have ht:=dU s
    generalize dJ s=t at ht hv
    by_cases hi0:i=0
    ·subst hi0
     repeat'((conv=>whnf);first|(try(first|apply eN|apply eI|apply eC);conv=>whnf);apply sD;(focus(try intro hc;have hc0:=hc;(try simp only[aA]at hc);try refine aE ?_);first|exact gx ht|exact zGb|exact aC)|apply rR|apply rE|apply rH| (apply cD<;>intro hb<;>(try simp only[aA]at hb)<;>try exact aM))
     all_goals try exact false
     ·repeat' ((conv=>whnf);first|exact aI|with_reducible first|apply And.intro|apply oR|apply oN|apply dC)
      all_goals (conv=>whnf)
      rw [if_pos (by simp_all)] at hv
      exact aJ hv
     ·rw [if_neg (by simp_all),if_neg (by simp [fI])] at hv
      refine ⟨1,⟨by omega,by rw [if_neg (by omega)];rw [hx];exact hv⟩,by omega,?_⟩
      exact aV
    ·obtain ⟨q,hq⟩:∃ q,vs[i - 1]?=some q:=⟨vs[i - 1]'(by omega),by simp⟩
     rw [if_neg hi0,hq] at hv
     repeat'((conv=>whnf);first|(try(first|apply eN|apply eI|apply eC);conv=>whnf);apply sD;(focus(try intro hc;have hc0:=hc;(try simp only[aA]at hc);try refine aE ?_);first|exact gx ht|exact zGb|(exact aP hq (by omega))|exact aC)|apply rR|apply rE|apply rH| (apply cD<;>intro hb<;>(try simp only[aA]at hb)<;>try exact aM))
     all_goals try exact false
     ·repeat' ((conv=>whnf);first|exact aI|with_reducible first|apply And.intro|apply oR|apply oN|apply dC)
      all_goals (conv=>whnf)
      rw [if_pos (by simp_all)] at hv
      exact aJ hv
     ·repeat' ((conv=>whnf);first|exact aI|with_reducible first|apply And.intro|apply oR|apply oN|apply dC)
      all_goals (conv=>whnf)
      rw [if_neg (by simp_all),if_pos (by simp [fI];simp_all)] at hv
      exact aJ hv
     ·rw [if_neg (by simp_all),if_neg (by simp [fI];simp_all)] at hv
      refine ⟨i+1,⟨by omega,by rw [if_neg (by omega),Nat.add_sub_cancel,hx];exact hv⟩,by omega,?_⟩
      exact aV
end Go.Proofs.YtnjgoldinaffgaaGreatDoor
namespace Go.Proofs.YtnjgoldinaffgaaGreatDoor
set_option linter.unusedSimpArgs false
set_option linter.unusedVariables false
open Go.RowKit
set_option maxRecDepth 100000
set_option maxHeartbeats 1000000
theorem uK (a:List UInt8):Op.bytesLess a []=false:=by cases a<;>rfl
theorem qA (x y:UInt8) (a b:List UInt8):Op.bytesLess (x::a) (y::b)=true↔x.toNat < y.toNat∨(x=y∧Op.bytesLess a b=true):=by
 simp only [Op.bytesLess,Bool.or_eq_true,decide_eq_true_eq,Bool.and_eq_true,beq_iff_eq]
 exact Iff.rfl
theorem eU:∀ {a b c:List UInt8},Op.bytesLess a b=true→Op.bytesLess b c=true→Op.bytesLess a c=true
 |_,b,[],_,h=>by rw [uK] at h;cases h
 |_,[],_::_,h,_=>by rw [uK] at h;cases h
 |[],_::_,_::_,_,_=>rfl
 |x::a,y::b,z::c,h,k=>by
  rw [qA] at *
  rcases h with h|⟨rfl,h⟩
  ·rcases k with k|⟨rfl,k⟩
   ·left;omega
   ·left;exact h
  ·rcases k with k|⟨rfl,k⟩
   ·left;exact k
   ·exact .inr ⟨rfl,eU h k⟩
theorem cH:∀ a:List UInt8,Op.bytesLess a a=false
 |[]=>rfl
 |x::a=>by
  rw [Bool.eq_false_iff]
  intro h
  rw [qA] at h
  rcases h with h|⟨_,h⟩
  ·omega
  ·rw [cH a] at h;cases h
theorem kJ:∀ a b:List UInt8,Op.bytesLess a b=true∨a=b∨Op.bytesLess b a=true
 |[],[]=>.inr (.inl rfl)
 |[],_::_=>.inl rfl
 |_::_,[]=>.inr (.inr rfl)
 |x::a,y::b=>by
  rw [qA,qA]
  rcases Nat.lt_trichotomy x.toNat y.toNat with h|h|h
  ·exact .inl (.inl h)
  ·have hxy:x=y:=UInt8.toNat_inj.1 h
   subst hxy
   rcases kJ a b with h|rfl|h
   ·exact .inl (.inr ⟨rfl,h⟩)
   ·exact .inr (.inl rfl)
   ·exact .inr (.inr (.inr ⟨rfl,h⟩))
  ·exact .inr (.inr (.inl h))
def bU {α:Type} (key:α→Str) (l:List α):Prop:=l.Pairwise fun a b=>Op.bytesLess (key a) (key b)=true
def rJ {α:Type} (key:α→Str) (l:List α) (n:Str):Bool:=l.any fun p=>key p == n
structure Halves {α:Type} (key:α→Str) (l:List α) (n:Str) (i j:Nat):Prop where
 le:i≤j
 lj:j≤l.length
 low:∀ k p,k < i→l[k]?=some p→Op.bytesLess (key p) n=true
 high:∀ k p,j≤k→l[k]?=some p→Op.bytesLess (key p) n=false
theorem Halves.start {α:Type} (key:α→Str) (l:List α) (n:Str):Halves key l n 0 l.length:=
 ⟨Nat.zero_le _,Nat.le_refl _,fun k p h=>by omega,fun k p h hp=>by have:=(bC hp);omega⟩
theorem lY {α:Type} {key:α→Str} {l:List α} (hr:bU key l) {i j:Nat} {p q:α} (hi:l[i]?=some p) (hj:l[j]?=some q) (h:i < j):Op.bytesLess (key p) (key q)=true:=by
 obtain ⟨h1,rfl⟩:=List.getElem?_eq_some_iff.1 hi
 obtain ⟨h2,rfl⟩:=List.getElem?_eq_some_iff.1 hj
 exact List.pairwise_iff_getElem.1 hr i j h1 h2 h
theorem Halves.right {α:Type} {key:α→Str} {l:List α} {n:Str} {i j h:Nat} {p:α} (hr:bU key l) (H:Halves key l n i j) (hi:i≤h) (hj:h < j) (hp:l[h]?=some p) (hc:Op.bytesLess (key p) n=true):Halves key l n (h+1) j:=by
 refine ⟨by omega,H.lj,fun k q hk hq => ?_,H.high⟩
 rcases Nat.lt_or_ge k h with h1|h1
 ·exact eU (lY hr hq hp h1) hc
 ·have:k=h:=by omega
  subst this
  rw [hp] at hq
  cases hq
  exact hc
theorem Halves.left {α:Type} {key:α→Str} {l:List α} {n:Str} {i j h:Nat} {p:α} (hr:bU key l) (H:Halves key l n i j) (hi:i≤h) (hj:h < j) (hp:l[h]?=some p) (hc:Op.bytesLess (key p) n=false):Halves key l n i h:=by
 refine ⟨hi,by have:=H.lj;omega,H.low,fun k q hk hq => ?_⟩
 rcases Nat.lt_or_ge h k with h1|h1
 ·rw [Bool.eq_false_iff]
  intro h2
  have:=eU (lY hr hp hq h1) h2
  rw [hc] at this
  cases this
 ·have:k=h:=by omega
  subst this
  rw [hp] at hq
  cases hq
  exact hc
theorem Halves.some {α:Type} {key:α→Str} {l:List α} {n:Str} {i:Nat} {p:α} (hr:bU key l) (H:Halves key l n i i) (hp:l[i]?=some p):rJ key l n=decide (key p=n):=by
 by_cases h:key p=n
 ·rw [decide_eq_true h]
  exact List.any_eq_true.2 ⟨p,aK hp,by simpa using h⟩
 ·rw [decide_eq_false h,rJ,List.any_eq_false]
  intro q hq hqn
  have hqn:key q=n:=by simpa using hqn
  obtain ⟨k,hk,rfl⟩:=List.mem_iff_getElem.1 hq
  have hk':=List.getElem?_eq_getElem hk
  rcases Nat.lt_trichotomy k i with h1|h1|h1
  ·have:=H.low k _ h1 hk'
   rw [hqn,cH] at this
   cases this
  ·subst h1
   rw [hk'] at hp
   cases hp
   exact h hqn
  ·have h2:=lY hr hp hk' h1
   rw [hqn,H.high i p (Nat.le_refl _) hp] at h2
   cases h2
theorem Halves.none {α:Type} {key:α→Str} {l:List α} {n:Str} {i:Nat} (H:Halves key l n i i) (hi:l.length≤i):rJ key l n=false:=by
 rw [rJ,List.any_eq_false]
 intro q hq hqn
 have hqn:key q=n:=by simpa using hqn
 obtain ⟨k,hk,rfl⟩:=List.mem_iff_getElem.1 hq
 have:=H.low k _ (by omega) (List.getElem?_eq_getElem hk)
 rw [hqn,cH] at this
 cases this
theorem nB {α:Type} {key:α→Str} {l:List α} {n:Str} (hr:bU key l):∀ (m i j:Nat),j - i≤m→Halves key l n i j→∃ k,Halves key l n k k
 |0,i,j,hm,H=>by
  have:i=j:=by have:=H.le;omega
  subst this
  exact ⟨i,H⟩
 |m+1,i,j,hm,H=>by
  by_cases hij:i=j
  ·subst hij
   exact ⟨i,H⟩
  ·have hle:=H.le
   have hlj:=H.lj
   have hp:=List.getElem?_eq_getElem (l:=l) (i:=i) (by omega)
   cases hc:Op.bytesLess (key l[i]) n with
   |true=>exact nB hr m (i+1) j (by omega) (H.right hr (Nat.le_refl _) (by omega) hp hc)
   |false=>exact ⟨i,H.left hr (Nat.le_refl _) (by omega) hp hc⟩
theorem yZ {α:Type} {key:α→Str} {l:List α} {n:Str} {i j:Nat} (H:Halves key l n i i) (K:Halves key l n j j):i=j:=by
 have key:∀ {i j:Nat},Halves key l n i i→Halves key l n j j→¬ i < j:=fun {i j} H K h=>by
  have hj:=K.lj
  have hp:=List.getElem?_eq_getElem (l:=l) (i:=i) (by omega)
  have h1:=K.low i _ h hp
  rw [H.high i _ (Nat.le_refl _) hp] at h1
  cases h1
 have h1:=key H K
 have h2:=key K H
 omega
theorem wC (a b:Str):Sem Tryz.prog 27 [.str a,.str b] (.int .i64 (Lib.compareBytes a b)):=
 lT (us := [.string ⟨a.toArray⟩,.string ⟨b.toArray⟩]) (v:=.int .i64 (Lib.compareBytes a b)) rfl rfl (fun _ _=>.int _ _) fun w=>
  (Tryz.strings_Compare ⟨a.toArray⟩ ⟨b.toArray⟩ w).mono fun e w' ⟨h1,h2⟩=>⟨h1,by rw [h2];exact Ext.refl w⟩
theorem pD:∀ a b:Str,Lib.compareBytes a b < 0↔Op.bytesLess a b=true
 |[],[]=>by simp [Lib.compareBytes,uK]
 |[],_::_=>by simp [Lib.compareBytes,Op.bytesLess]
 |_::_,[]=>by simp [Lib.compareBytes,uK]
 |x::a,y::b=>by
  rw [qA]
  unfold Lib.compareBytes
  have h1:x < y↔x.toNat < y.toNat:=Iff.rfl
  have h2:y < x↔y.toNat < x.toNat:=Iff.rfl
  by_cases hxy:x < y
  ·rw [if_pos hxy]
   simp [h1.1 hxy]
  ·rw [if_neg hxy]
   by_cases hyx:y < x
   ·rw [if_pos hyx]
    have:=h2.1 hyx
    refine ⟨fun h=>by omega,?_⟩
    rintro (h|⟨rfl,_⟩)<;>omega
   ·rw [if_neg hyx]
    have he:x=y:=UInt8.toNat_inj.1 (by rw [h1] at hxy;rw [h2] at hyx;omega)
    subst he
    rw [pD a b]
    simp
theorem zFf:∀ a b:Str,Lib.compareBytes a b=0↔a=b
 |[],[]=>by simp [Lib.compareBytes]
 |[],_::_=>by simp [Lib.compareBytes]
 |_::_,[]=>by simp [Lib.compareBytes]
 |x::a,y::b=>by
  unfold Lib.compareBytes
  have h1:x < y↔x.toNat < y.toNat:=Iff.rfl
  have h2:y < x↔y.toNat < x.toNat:=Iff.rfl
  by_cases hxy:x < y
  ·rw [if_pos hxy]
   have:=h1.1 hxy
   refine ⟨fun h=>by omega,fun h => ?_⟩
   cases h
   omega
  ·rw [if_neg hxy]
   by_cases hyx:y < x
   ·rw [if_pos hyx]
    have:=h2.1 hyx
    refine ⟨fun h=>by omega,fun h => ?_⟩
    cases h
    omega
   ·rw [if_neg hyx]
    have he:x=y:=UInt8.toNat_inj.1 (by rw [h1] at hxy;rw [h2] at hyx;omega)
    subst he
    rw [zFf a b]
    simp
theorem zBP {a b:Str} (h:(Op.bytesLess b a || b == a)=false):Op.bytesLess a b=true:=by
 rw [Bool.or_eq_false_iff] at h
 rcases kJ a b with h1|rfl|h1
 ·exact h1
 ·simp at h
 ·rw [h1] at h;cases h.1
end Go.Proofs.YtnjgoldinaffgaaGreatDoor
