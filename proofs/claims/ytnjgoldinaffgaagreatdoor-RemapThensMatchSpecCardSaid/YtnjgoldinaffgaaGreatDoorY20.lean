/- Numbers of a path: plain, and the program's reading of them (walks). Paths of groups: the program's and the reference's (walks). -/
import Derived.Test.YtnjgoldinaffgaaGreatDoorY18
import Derived.Test.YtnjgoldinaffgaaGreatDoorY16
import Derived.Test.YtnjgoldinaffgaaGreatDoorY19
import Derived.Lib.Atoi
import Derived.Lib.AtoiErrMem
namespace Go.Proofs.YtnjgoldinaffgaaGreatDoor
open _root_.Go.Proofs.Tryz
set_option linter.unusedSimpArgs false
set_option linter.unusedVariables false
open Go.RowKit
set_option maxRecDepth 100000
set_option maxHeartbeats 1000000
def cN (c:UInt8):Bool:=decide (48≤c.toNat) && decide (c.toNat≤57)
def zCh (s:List UInt8):Int:=s.foldl (fun n c=>10 * n+(c.toNat - 48)) 0
def oQ (s:List UInt8):Bool:=decide (1 < s.length) && decide ((s.getD (Int.toNat 0) 0).toNat=48)
def rN (s:List UInt8):Bool:=decide (1≤s.length) && decide (s.length≤3) && !oQ s && s.all cN
def eQ (s:List UInt8):Int × Bool:=if rN s=true then (zCh s,true) else (0,false)
theorem zF9:∀ (l:List UInt8) (acc:Nat),l.all cN=true→∃ n:Nat,Lib.decFrom acc l=some n∧(n:Int)=l.foldl (fun (n:Int) c=>10 * n+(c.toNat - 48)) acc
 |[],acc,_=>⟨acc,rfl,rfl⟩
 |c::l,acc,h=>by
  simp only [List.all_cons,Bool.and_eq_true] at h
  have hc:=h.1
  simp only [cN,Bool.and_eq_true,decide_eq_true_eq] at hc
  obtain ⟨n,h1,h2⟩:=zF9 l (10 * acc+(c.toNat - 48)) h.2
  refine ⟨n,?_,?_⟩
  ·have hd:Lib.digitVal c=some (c.toNat - 48):=by
    unfold Lib.digitVal
    simp [UInt8.le_iff_toNat_le,hc]
   rw [Lib.decFrom,hd]
   have e:acc * 10+(c.toNat - 48)=10 * acc+(c.toNat - 48):=by omega
   simp only [e]
   exact h1
  ·rw [h2,List.foldl_cons]
   congr 1
   omega
theorem zD6 {s:List UInt8} (hl:1≤s.length) (h:s.all cN=true):Lib.atoi s=some (zCh s):=by
 cases s with
 |nil=>simp at hl
 |cons b r=>
  have hb:=h
  simp only [List.all_cons,Bool.and_eq_true] at hb
  have hb1:=hb.1
  simp only [cN,Bool.and_eq_true,decide_eq_true_eq] at hb1
  have h45:(b == 45)=false:=by
   rw [beq_eq_false_iff_ne]
   intro e
   subst e
   simp at hb1
  have h43:(b == 43)=false:=by
   rw [beq_eq_false_iff_ne]
   intro e
   subst e
   simp at hb1
  obtain ⟨n,h1,h2⟩:=zF9 (b::r) 0 h
  unfold Lib.atoi
  simp only [h45,h43,Bool.false_eq_true,if_false,Lib.decNat,List.isEmpty_cons,h1,Option.map_some]
  rw [h2]
  rfl
theorem zAJ {P:Program} {f:Nat} [e:Enters P f] {ds:List D} {us:List Value} {d:D} {v:Value} (hv:tN ds=some us) (hc:d.calm=true) (hz:∀ lim w,Fz lim w v d) (h:∀ (S:Sig) (w:World),GL S w→Calls P f us.toArray w fun e w'=>e=.returned v∧Below w.heap.size w w'):Sem P f ds d:=
 ⟨e,hc,fun S w vs hw hl hr=>by
  obtain rfl:=rV (q:=fun i=>.slot i) hv hl hr
  exact (h S w hw.gl).mono fun e w' ⟨he,hx⟩=>⟨v,S,he,(PT.ext' hw hx).wf,(PT.ext' hw hx).trans,.fz (hz _ _)⟩⟩
theorem tJ (s:Str) (n:Int) (hl:s.length≤18) (h:Lib.atoi s=some n):Sem Tryz.prog 133 [.str s] (.tup [.int .i64 n,.pv .nilIface]):=
 zAJ (us := [.string ⟨s.toArray⟩]) (v:=.tuple #[.int .i64 n,.nilIface]) rfl rfl (fun _ _=>.tup [.int .i64 n,.nilIface] rfl fun j d v hd hv=>by
  match j,hd,hv with
  |0,hd,hv=>cases hd;cases hv;exact .int _ _
  |1,hd,hv=>cases hd;cases hv;exact .pv _
  | j+2,hd,_=>cases hd) fun S w _=>
  (Tryz.strconv_Atoi ⟨s.toArray⟩ n (by show s.toArray.size≤_;simpa using hl) (by simpa using h) w).mono fun e w' ⟨he,t,hw⟩=>⟨he,by subst hw;exact Lib.bytesWorld_below w _ t⟩
theorem sY (s:Str) (hs:s.length≤9223372036854775807):Sem Tryz.prog 110 [.str s,.int .u8 48,.int .u8 57] (.bool (s.all cN)):=by
 refine si [] func110 ?_
 repeat'((conv=>whnf);first|(try(first|apply eN|apply eT|apply eC);conv=>whnf);apply sD;(focus(try intro hc;have hc0:=hc;(try simp only[aA]at hc);try refine aE ?_);first|exact aC)|apply rR|apply rE|apply rH| (apply cD<;>intro hb<;>(try simp only[aA]at hb)<;>try exact aM))
 all_goals try exact false
 refine aL (M:=fun t=>gF t []) hT hM (fun k:Nat => [(10,.int .i64 k)]) (fun k=>k≤s.length∧(s.take k).all cN=true) (fun k=>s.length - k) (0) ?_ ?_ ?_
 ·exact aV
 ·exact ⟨by omega,rfl⟩
 ·rintro k ⟨hk,hall⟩
  repeat'((conv=>whnf);first|(try(first|apply eN|apply eT|apply eC);conv=>whnf);apply sD;(focus(try intro hc;have hc0:=hc;(try simp only[aA]at hc);try refine aE ?_);first|exact aC)|apply rR|apply rE|apply rH| (apply cD<;>intro hb<;>(try simp only[aA]at hb)<;>try exact aM))
  all_goals try exact false
  ·rename_i hb0
   obtain ⟨x,hx⟩:∃ x,s[k]?=some x:=⟨s[k],by simp⟩
   repeat' ((conv=>whnf);first|exact aI|with_reducible first|apply And.intro|apply oR|apply oN|apply dC)
   all_goals (conv=>whnf)
   refine aS (Eq.symm ?_)
   simp [hx] at hb
   have:cN x=false:=by
    simp [cN]
    omega
   rw [List.all_eq_false]
   exact ⟨x,aK hx,by simp [this]⟩
  ·rename_i hb0
   obtain ⟨x,hx⟩:∃ x,s[k]?=some x:=⟨s[k],by simp⟩
   refine ⟨k+1,⟨by omega,?_⟩,by omega,?_⟩
   ·simp [hx] at hb
    rw [eZ hx,List.all_append,hall]
    have:cN x=true:=by
     simp [cN]
     omega
    simp [this]
   ·exact aV
  ·repeat' ((conv=>whnf);first|exact aI|with_reducible first|apply And.intro|apply oR|apply oN|apply dC)
   all_goals (conv=>whnf)
   refine aS (Eq.symm ?_)
   rw [List.take_of_length_le (by omega)] at hall
   exact hall
theorem sW (s:Str) (hs:s.length≤9223372036854775807):Sem Tryz.prog 132 [.str s] (.bool (!(s == []) && s.all cN)):=by
 have h:=sY s hs
 refine si [] func132 ?_
 repeat'((conv=>whnf);first|(try(first|apply eN|apply eC);conv=>whnf);apply sD;(focus(try intro hc;have hc0:=hc;(try simp only[aA]at hc);try refine aE ?_);first|exact gx h|(refine gx (sY ?_ ?_)<;>exact pre)|(refine gx (jC ?_ ?_ ?_ ?_)<;>exact pre)|exact aC)|apply rR|apply rE|apply rH| (apply cD<;>intro hb<;>(try simp only[aA]at hb)<;>try exact aM))
 all_goals try exact false
 exact aT
theorem zKA{p:Prop}(h:p:=by first|(refine gx (sW ?_ ?_)<;>exact pre)|(refine gx (tJ ?_ ?_ ?_ ?_)<;>exact pre)):p:=h
theorem rT (s:Str) (hs:s.length≤9223372036854775807):Sem Tryz.prog 86 [.str s,.int .i64 3] (.tup [.int .i64 (eQ s).1,.bool (eQ s).2]):=by
 have hI:=sW s hs
 by_cases hc:rN s=true
 ·have e:eQ s=(zCh s,true):=by unfold eQ;rw [if_pos hc]
  unfold rN oQ at hc
  simp only [Bool.and_eq_true,decide_eq_true_eq,Bool.not_eq_true',Bool.and_eq_false_iff,decide_eq_false_iff_not] at hc
  obtain ⟨⟨⟨h1,h2⟩,h3⟩,h4⟩:=hc
  have hne:(s == [])=false:=by
   cases s with
   |nil=>simp at h1
   |cons _ _=>rfl
  have hA:=tJ s (zCh s) (by omega) (zD6 h1 h4)
  rw [hne,h4] at hI
  rw [e]
  refine si [] func86 ?_
  repeat'((conv=>whnf);first|(try(first|apply eN|apply eT|apply eC);conv=>whnf);apply sD;(focus(try intro hc;have hc0:=hc;(try simp only[aA]at hc);try refine aE ?_);first|exact gx hI|exact gx hA|exact zKA|exact aC)|(first|apply dG|apply kB);kernel_rfl|apply rR|apply rE|apply rH| (apply cD<;>intro hb<;>(try simp only[aA]at hb)<;>try exact aM))
  all_goals try exact false
  ·exfalso
   rcases hb with (h|h|h)|h
   ·omega
   ·cases h
   ·cases h
   ·omega
  ·exact aT
 ·have e:eQ s=(0,false):=by unfold eQ;rw [if_neg hc]
  rw [e]
  cases hq:(!(s == []) && s.all cN)
  ·rw [hq] at hI
   refine si [] func86 ?_
   repeat'((conv=>whnf);first|(try(first|apply eN|apply eT|apply eC);conv=>whnf);apply sD;(focus(try intro hc;have hc0:=hc;(try simp only[aA]at hc);try refine aE ?_);first|exact gx hI|exact zKA|exact aC)|(first|apply dG|apply kB);kernel_rfl|apply rR|apply rE|apply rH| (apply cD<;>intro hb<;>(try simp only[aA]at hb)<;>try exact aM))
   all_goals try exact false
   exact aT
  ·have hc':3 < s.length∨(1 < s.length∧(s.getD (Int.toNat 0) 0).toNat=48):=by
    rw [Bool.and_eq_true] at hq
    have h1:1≤s.length:=by
     cases s with
     |nil=>simp at hq
     |cons _ _=>simp
    by_cases h2:s.length≤3
    ·refine .inr ?_
     unfold rN at hc
     rw [decide_eq_true h1,decide_eq_true h2,hq.2,Bool.true_and,Bool.true_and,Bool.and_true] at hc
     simpa [oQ] using hc
    ·exact .inl (by omega)
   rw [hq] at hI
   refine si [] func86 ?_
   repeat'((conv=>whnf);first|(try(first|apply eN|apply eT|apply eC);conv=>whnf);apply sD;(focus(try intro hc;have hc0:=hc;(try simp only[aA]at hc);try refine aE ?_);first|exact gx hI|exact zKA|exact aC)|(first|apply dG|apply kB);kernel_rfl|apply rR|apply rE|apply rH| (apply cD<;>intro hb<;>(try simp only[aA]at hb)<;>try exact aM))
   all_goals try exact false
   exact aT
def nameSet:Str := [97,98,99,100,101,102,103,104,105,106,107,108,109,110,111,112,113,114,115,116,117,118,119,120,121,122,48,49,50,51,52,53,54,55,56,57,45]
theorem tZ (c:UInt8):nameSet.contains c=fO c:=by
 have:∀ n:Fin 256,nameSet.contains (UInt8.ofNat n.val)=fO (UInt8.ofNat n.val):=by decide +kernel
 have h:=this ⟨c.toNat,c.toNat_lt⟩
 simpa using h
theorem zGv (s:Str):(Lib.trimS s nameSet == [])=s.all fO:=by
 have h1:=xE s nameSet
 have h2:s.all (nameSet.contains ·)=s.all fO:=by
  congr 1
  exact funext tZ
 rw [h2] at h1
 rw [Bool.eq_iff_iff,beq_iff_eq,h1]
theorem yU (s:Str) (h:0 < s.length):aR s=(decide (s.length≤40) && (decide (97≤(s[0]).toNat) && decide ((s[0]).toNat≤122)) && s.all fO):=by
 cases s with
 |nil=>simp at h
 |cons c t=>simp only [aR,oD,List.length_cons,List.getElem_cons_zero];congr 2
theorem zAx (s:Str) (hs:s.length≤9223372036854775807):Sem Tryz.prog 67 [.str s,.str nameSet] (.str (Lib.trimS s nameSet)):=
 lT (us := [.string ⟨s.toArray⟩,.string ⟨nameSet.toArray⟩]) (v:=.string ⟨(Lib.trimS s nameSet).toArray⟩) rfl rfl (fun _ _=>.str _) fun w=>
  Any.strings_Trim_laid zFP (by kernel_rfl) ⟨s.toArray⟩ ⟨nameSet.toArray⟩ w (by show s.toArray.size≤_;simp;omega) (by decide) (ascii_of_all (by decide))
theorem fQ (s:Str) (hs:s.length≤9223372036854775807):Sem Tryz.prog 33 [.str s] (.bool (aR s)):=by
 rcases Nat.eq_zero_or_pos s.length with h0|h0
 ·obtain rfl:s = []:=List.eq_nil_of_length_eq_zero h0
  refine si [] func33 ?_
  repeat'((conv=>whnf);first|(try(first|apply eN|apply eT|apply eC);conv=>whnf);apply sD;(focus(try intro hc;have hc0:=hc;(try simp only[aA]at hc);try refine aE ?_);first|(refine gx (zAx ?_ hs)<;>exact pre)|(refine gx (tQ ?_ ?_)<;>exact pre)|exact aC)|apply rR|apply rE|apply rH| (apply cD<;>intro hb<;>(try simp only[aA]at hb)<;>try exact aM))
  all_goals try exact false
  exact aT
 ·have hn:=yU s h0
  obtain ⟨c,hc⟩:∃ c,s[0]?=some c:=⟨s[0],by simp⟩
  have hc1:s[0]=c:=(List.getElem?_eq_some_iff.1 hc).2
  rw [hc1] at hn
  refine si [] func33 ?_
  repeat'((conv=>whnf);first|(try(first|apply eN|apply eT|apply eC);conv=>whnf);apply sD;(focus(try intro hc;have hc0:=hc;(try simp only[aA]at hc);try refine aE ?_);first|(refine gx (zAx ?_ hs)<;>exact pre)|(refine gx (tQ ?_ ?_)<;>exact pre)|exact aC)|apply rR|apply rE|apply rH| (apply cD<;>intro hb<;>(try simp only[aA]at hb)<;>try exact aM))
  all_goals try exact false
  ·repeat' ((conv=>whnf);first|exact aI|with_reducible first|apply And.intro|apply oR|apply oN|apply dC)
   all_goals (conv=>whnf)
   refine aS ?_
   rw [hn]
   simp [hc] at hb
   simp
   omega
  ·repeat' ((conv=>whnf);first|exact aI|with_reducible first|apply And.intro|apply oR|apply oN|apply dC)
   all_goals (conv=>whnf)
   refine aS ?_
   have e:=zGv s
   rw [hn]
   simp [hc] at hb
   rw [decide_eq_true (show s.length≤40 by omega),decide_eq_true (show 97≤c.toNat by omega),decide_eq_true (show c.toNat≤122 by omega)]
   exact e
theorem dE (s:Str) (hs:s.length≤9223372036854775807):Sem Tryz.prog 41 [.str s] (.bool (aR s)):=by
 rcases Nat.eq_zero_or_pos s.length with h0|h0
 ·obtain rfl:s = []:=List.eq_nil_of_length_eq_zero h0
  refine si [] func41 ?_
  repeat'((conv=>whnf);first|(try(first|apply eN|apply eT|apply eC);conv=>whnf);apply sD;(focus(try intro hc;have hc0:=hc;(try simp only[aA]at hc);try refine aE ?_);first|exact aC)|apply rR|apply rE|apply rH| (apply cD<;>intro hb<;>(try simp only[aA]at hb)<;>try exact aM))
  all_goals try exact false
  refine aL (M:=fun t=>gF t [0]) hT hM (fun _:Unit => [(3,.int .i64 0)]) (fun _=>True) (fun _=>0) (()) ?_ ?_ ?_
  ·exact aV
  ·exact trivial
  ·rintro _ _
   repeat'((conv=>whnf);first|(try(first|apply eN|apply eT|apply eC);conv=>whnf);apply sD;(focus(try intro hc;have hc0:=hc;(try simp only[aA]at hc);try refine aE ?_);first|exact aC)|apply rR|apply rE|apply rH| (apply cD<;>intro hb<;>(try simp only[aA]at hb)<;>try exact aM))
   all_goals try exact false
   exact aT
 ·have hn:=yU s h0
  have hd:∀ c,s[0]?=some c→s[0]=c:=fun c hc=>(List.getElem?_eq_some_iff.1 hc).2
  generalize aR s=r at hn ⊢
  refine si [] func41 ?_
  repeat'((conv=>whnf);first|(try(first|apply eN|apply eT|apply eC);conv=>whnf);apply sD;(focus(try intro hc;have hc0:=hc;(try simp only[aA]at hc);try refine aE ?_);first|exact aC)|apply rR|apply rE|apply rH| (apply cD<;>intro hb<;>(try simp only[aA]at hb)<;>try exact aM))
  all_goals try exact false
  refine aL (M:=fun t=>gF t []) hT hM (fun k:Nat => [(3,.int .i64 k)]) (fun k=>k≤s.length∧(s.take k).all fO=true∧(0 < k→(decide (97≤(s[0]).toNat) && decide ((s[0]).toNat≤122))=true)) (fun k=>s.length - k) (0) ?_ ?_ ?_
  ·exact aV
  ·exact ⟨by omega,rfl,by omega⟩
  ·rintro k ⟨hk,hall,hr⟩
   cases hx:s[k]? with
   |none=>
    have hm:=List.getElem?_eq_none_iff.1 hx
    repeat'((conv=>whnf);first|(try(first|apply eN|apply eT|apply eC);conv=>whnf);apply sD;(focus(try intro hc;have hc0:=hc;(try simp only[aA]at hc);try refine aE ?_);first|exact aC)|apply rR|apply rE|apply rH| (apply cD<;>intro hb<;>(try simp only[aA]at hb)<;>try exact aM))
    all_goals try exact false
    repeat' ((conv=>whnf);first|exact aI|with_reducible first|apply And.intro|apply oR|apply oN|apply dC)
    all_goals (conv=>whnf)
    refine aS ?_
    rw [List.take_of_length_le hm] at hall
    rw [hn,hall,hr (by omega)]
    have:s ≠ []:=fun e=>by rw [e] at h0;simp at h0
    rw [show decide ((s.length:Int)≤40)=decide (s.length≤40) from decide_eq_decide.2 (by omega)]
    simp [this]
   |some x=>
    have hlt:=(bC hx)
    repeat'((conv=>whnf);first|(try(first|apply eN|apply eT|apply eC);conv=>whnf);apply sD;(focus(try intro hc;have hc0:=hc;(try simp only[aA]at hc);try refine aE ?_);first|exact aC)|apply rR|apply rE|apply rH| (apply cD<;>intro hb<;>(try simp only[aA]at hb)<;>try exact aM))
    all_goals try exact false
    ·repeat' ((conv=>whnf);first|exact aI|with_reducible first|apply And.intro|apply oR|apply oN|apply dC)
     all_goals (conv=>whnf)
     refine aS (Eq.symm ?_)
     simp [List.getD_eq_getElem?_getD,hx] at hb
     rw [hn]
     rcases Nat.eq_zero_or_pos k with e|e
     ·subst e
      rw [hd x hx]
      have:(decide (97≤x.toNat) && decide (x.toNat≤122))=false:=by simp;omega
      rw [this,Bool.and_false,Bool.false_and]
     ·have:fO x=false:=by simp [fO,oD];omega
      rw [Bool.and_eq_false_iff]
      refine .inr ?_
      rw [List.all_eq_false]
      exact ⟨x,aK hx,by simp [this]⟩
    all_goals (
     refine ⟨k+1,⟨by omega,?_,fun _ => ?_⟩,by omega,?_⟩
     ·simp [List.getD_eq_getElem?_getD,hx] at hb
      have:fO x=true:=by simp [fO,oD];omega
      rw [eZ hx,List.all_append,hall]
      simp [this]
     ·simp [List.getD_eq_getElem?_getD,hx] at hb
      rcases Nat.eq_zero_or_pos k with e|e
      ·subst e
       rw [hd x hx]
       simp
       omega
      ·exact hr e
     ·(conv=>whnf)
      refine ⟨?_,by rfl⟩
      repeat' ((conv=>whnf);first|exact DLes.nil|with_reducible exact DLe.refl _|exact DLe.any _|with_reducible apply dC|exact DLe.refl _|exact cT (by omega)))
def zDx (q:Str→Bool):List Str→Int→Int
 |[],_ => -1
 |a::r,k=>if q a=true then k else zDx q r (k+1)
theorem zDw (q:Str→Bool):∀ (l:List Str) (k:Int),0≤k→decide (0≤zDx q l k)=l.any q
 |[],k,_=>rfl
 |a::r,k,h=>by
  rw [zDx,List.any_cons]
  by_cases ha:q a=true
  ·rw [if_pos ha,ha];simpa using h
  ·rw [if_neg ha,zDw q r (k+1) (by omega)]
   simp [ha]
theorem zLH {q:Str→Bool} {l:List Str} {k:Nat} {a:Str} (h:l[k]?=some a):zDx q (l.drop k) k=if q a=true then (k:Int) else zDx q (l.drop (k+1)) ((k+1:Nat):Int):=by
 rw [List.drop_eq_getElem_cons (bC h),(List.getElem?_eq_some_iff.1 h).2]
 rfl
theorem oP (l:List Str) (f:Nat) (q:Str→Bool) (hl:l.length≤1000000) (hq:∀ a ∈ l,Sem Tryz.prog f [.str a] (.bool (q a))):Sem Tryz.prog 178 [.sl 0 1 (l.map fun s => [.str s]),.fn f []] (.int .i64 (zDx q l 0)):=by
 refine si [] func178 ?_
 repeat'((conv=>whnf);first|(try(first|apply eN|apply eI|apply eC);conv=>whnf);apply sD;(focus first|exact bV)|apply rR|apply rE|apply rH| (apply cD<;>intro hb<;>(try simp only[aA]at hb)<;>try exact aM))
 all_goals try exact false
 refine aL (M:=fun t=>gF t []) hT hM (fun k:Nat => [(8,.int .i64 k)]) (fun k=>k≤l.length∧zDx q (l.drop k) k=zDx q l 0) (fun k=>l.length - k) (0) ?_ ?_ ?_
 ·exact aV
 ·exact ⟨Nat.zero_le _,rfl⟩
 ·rintro k ⟨hk,hi⟩
  rcases hx:l[k]? with _|a
  ·have hk':k=l.length:=by have:=List.getElem?_eq_none_iff.1 hx;omega
   subst hk'
   rw [List.drop_length] at hi
   repeat'((conv=>whnf);first|(try(first|apply eN|apply eI|apply eC);conv=>whnf);apply sD;(focus first|exact bV)|apply rR|apply rE|apply rH| (apply cD<;>intro hb<;>(try simp only[aA]at hb)<;>try exact aM))
   all_goals try exact false
   repeat' ((conv=>whnf);first|exact aI|with_reducible first|apply And.intro|apply oR|apply oN|apply dC)
   all_goals (conv=>whnf)
   exact aJ hi
  ·have hlt:=(bC hx)
   rw [zLH hx] at hi
   repeat'((conv=>whnf);first|(try(first|apply eN|apply eI|apply eC);conv=>whnf);apply sD;(focus first|(refine gx (hq ?_ (aK hx))<;>exact pre)|exact bV)|apply rR|apply rE|apply rH| (apply cD<;>intro hb<;>(try simp only[aA]at hb)<;>try exact aM))
   all_goals try exact false
   ·repeat' ((conv=>whnf);first|exact aI|with_reducible first|apply And.intro|apply oR|apply oN|apply dC)
    all_goals (conv=>whnf)
    exact aJ (by rw [← hi,if_pos hb])
   ·refine ⟨k+1,⟨by omega,by rw [← hi,if_neg (by simp [hb])]⟩,by omega,?_⟩
    exact aV
theorem lD (l:List Str) (f:Nat) (q:Str→Bool) (hl:l.length≤1000000) (hq:∀ a ∈ l,Sem Tryz.prog f [.str a] (.bool (q a))):Sem Tryz.prog 128 [.sl 0 1 (l.map fun s => [.str s]),.fn f []] (.bool (l.any q)):=by
 have hI:=oP l f q hl hq
 refine si [] func128 ?_
 repeat'((conv=>whnf);first|(try(first|apply eN|apply eC);conv=>whnf);apply sD;(focus first|exact gx hI|(refine gx (oP ?_ ?_ ?_ ?_ ?_)<;>exact pre)|exact bV)|apply rR|apply rE|apply rH| (apply cD<;>intro hb<;>(try simp only[aA]at hb)<;>try exact aM))
 all_goals try exact false
 repeat' ((conv=>whnf);first|exact aI|with_reducible first|apply And.intro|apply oR|apply oN|apply dC)
 all_goals (conv=>whnf)
 exact aS (zDw q l 0 (by omega))
theorem gV {c:UInt8}:∀ {s w:List UInt8},w ∈ aF c s→w.length≤s.length
 |[],w,h=>by simp [aF] at h;subst h;simp
 |b::r,w,h=>by
  rw [aF] at h
  split at h
  ·rcases List.mem_cons.1 h with rfl|h
   ·simp
   ·have:=gV h
    simp only [List.length_cons]
    omega
  ·cases hw:aF c r with
   |nil=>exact absurd hw (fZ r)
   |cons x t=>
    have ih:∀ y ∈ aF c r,y.length≤r.length:=fun y hy=>gV hy
    rw [hw] at h ih
    rcases List.mem_cons.1 h with rfl|h
    ·have:=ih x (by simp)
     simp only [List.length_cons]
     omega
    ·have:=ih w (by simp [h])
     simp only [List.length_cons]
     omega
def mW (p:Str):Bool:=(aF 47 p).all aR
theorem zHi (s:Str) (hs:s.length≤9223372036854775807):Sem Tryz.prog 129 [.str s] (.bool (!aR s)):=by
 have h:=fQ s hs
 generalize aR s=r at h ⊢
 refine si [] func129 ?_
 repeat'((conv=>whnf);first|(try(first|apply eN|apply eC);conv=>whnf);apply sD;(focus first|exact gx h|(refine gx (fQ ?_ ?_)<;>exact pre)|exact bV)|apply rR|apply rE|apply rH| (apply cD<;>intro hb<;>(try simp only[aA]at hb)<;>try exact aM))
 all_goals try exact false
 exact aT
theorem zLP {α:Type} (q:α→Bool) (l:List α):(!(l.any fun a => !q a))=l.all q:=by
 induction l with
 |nil=>rfl
 |cons a l ih=>rw [List.any_cons,List.all_cons,← ih];cases q a<;>simp
theorem iX (p:Str) (hp:p.length≤1000):Sem Tryz.prog 84 [.str p] (.tup [.sl 0 1 ((aF 47 p).map fun s => [.str s]),.bool (mW p)]):=by
 have h1:=(eV p 47 (by omega)).frozen
 have hl:=iI (c:=47) p
 have h2:=lD (aF 47 p) 129 (fun s => !aR s) (by omega) fun a ha=>zHi a (by have:=gV ha;omega)
 have h3:=zLP aR (aF 47 p)
 unfold mW
 rw [← h3]
 generalize (aF 47 p).any (fun s => !aR s)=b at h2 ⊢
 generalize aF 47 p=l at h1 h2 ⊢
 refine si [] func84 ?_
 repeat'((conv=>whnf);first|(try(first|apply eN|apply eC);conv=>whnf);apply sD;(focus first|exact gx h1|exact gx h2|(refine gx (eV ?_ ?_ ?_)<;>exact pre)|(refine gx (lD ?_ ?_ ?_ ?_ ?_)<;>exact pre)|exact bV)|apply rR|apply rE|apply rH| (apply cD<;>intro hb<;>(try simp only[aA]at hb)<;>try exact aM))
 all_goals try exact false
 exact aT
def bH (p:Str):Int:=if 200 < p.length then 2 else if p ≠ []∧mW p=false then 10 else 0
theorem gD (p:Str):Sem Tryz.prog 113 [.str p] (.int .i64 (bH p)):=by
 have h:=fun h:p.length≤1000=>iX p h
 unfold bH
 generalize mW p=b at h ⊢
 refine si [] func113 ?_
 repeat'((conv=>whnf);first|(try(first|apply eN|apply eC);conv=>whnf);apply sD;(focus(try intro hc;have hc0:=hc;(try simp only[aA]at hc);try refine aE ?_);first|(refine gx (h (by omega))<;>exact pre)|(refine gx (iX ?_ ?_)<;>exact pre)|exact aC)|apply rR|apply rE|apply rH| (apply cD<;>intro hb<;>(try simp only[aA]at hb)<;>try exact aM))
 all_goals try exact false
 all_goals (
  repeat' ((conv=>whnf);first|exact aI|with_reducible first|apply And.intro|apply oR|apply oN|apply dC)
  all_goals (conv=>whnf)
  refine aJ ?_
  clear h
  by_cases hp:p = []<;>cases b<;>simp [hp] at hb ⊢<;>omega)
def fN (p:Str):List Str × Int:=if 200 < p.length then ([],2) else if p = [] then ([],0) else if mW p=true then (aF 47 p,0) else ([],10)
theorem yF (p:Str):(fN p).2=bH p:=by
 unfold fN bH
 split
 ·rfl
 ·split
  ·simp_all
  ·split<;>simp_all
theorem zDV{p:Prop}(h:p:=by first|(refine gx (eV ?_ ?_ ?_)<;>exact pre)|(refine gx (dE ?_ ?_)<;>exact pre)):p:=h
theorem gQ (p:Str):Sem Tryz.prog 45 [.str p] (.tup [.sl 0 1 ((fN p).1.map fun s => [.str s]),.int .i64 (fN p).2]):=by
 unfold fN
 by_cases h0:200 < p.length
 ·rw [if_pos h0]
  refine si [] func45 ?_
  repeat'((conv=>whnf);first|(try(first|apply eN|apply eI|apply eC);conv=>whnf);apply sD;(focus first|exact zDV|exact bV)|apply rR|apply rE|apply rH| (apply cD<;>intro hb<;>(try simp only[aA]at hb)<;>try exact aM))
  all_goals try exact false
  exact aT
 ·rw [if_neg h0]
  by_cases h1:p = []
  ·subst h1
   refine si [] func45 ?_
   repeat'((conv=>whnf);first|(try(first|apply eN|apply eI|apply eC);conv=>whnf);apply sD;(focus first|exact zDV|exact bV)|apply rR|apply rE|apply rH| (apply cD<;>intro hb<;>(try simp only[aA]at hb)<;>try exact aM))
   all_goals try exact false
   exact aT
  ·rw [if_neg h1]
   have hs:=(eV p 47 (by omega)).frozen
   have hl:=iI (c:=47) p
   have hn:∀ a ∈ aF 47 p,Sem Tryz.prog 41 [.str a] (.bool (aR a)):=fun a ha=>dE a (by have:=gV ha;omega)
   unfold mW
   generalize aF 47 p=l at hs hl hn ⊢
   generalize hr:(if l.all aR=true then (l,(0:Int)) else ([],10))=r
   refine si [] func45 ?_
   repeat'((conv=>whnf);first|(try(first|apply eN|apply eI|apply eC);conv=>whnf);apply sD;(focus first|exact gx hs|exact zDV|exact bV)|apply rR|apply rE|apply rH| ((apply cD)<;>intro hb<;>(try simp only [aA] at hb)<;>(try first|exact aM|((simp_all;done);done))))
   all_goals try exact false
   refine aL (M:=fun t=>gF t []) hT hM (fun k:Nat => [(5,.int .i64 k)]) (fun k=>k≤l.length∧(l.take k).all aR=true) (fun k=>l.length - k) (0) ?_ ?_ ?_
   ·exact aV
   ·exact ⟨by omega,rfl⟩
   ·rintro k ⟨hk,hall⟩
    cases hx:l[k]? with
    |none=>
     have hm:=List.getElem?_eq_none_iff.1 hx
     rw [List.take_of_length_le hm] at hall
     rw [if_pos hall] at hr
     subst hr
     repeat'((conv=>whnf);first|(try(first|apply eN|apply eI|apply eC);conv=>whnf);apply sD;(focus first|exact zDV|exact bV)|apply rR|apply rE|apply rH| (apply cD<;>intro hb<;>(try simp only[aA]at hb)<;>try exact aM))
     all_goals try exact false
     exact aT
    |some a=>
     have hlt:=(bC hx)
     have ha:=hn a (aK hx)
     have hb1:aR a=false→l.all aR=false:=fun h=>by
      rw [List.all_eq_false]
      exact ⟨a,aK hx,by simp [h]⟩
     have hb2:aR a=true→(l.take (k+1)).all aR=true:=fun h=>by
      rw [eZ hx,List.all_append,hall]
      simp [h]
     generalize aR a=b at ha hb1 hb2
     repeat'((conv=>whnf);first|(try(first|apply eN|apply eI|apply eC);conv=>whnf);apply sD;(focus first|exact gx ha|exact zDV|exact bV)|apply rR|apply rE|apply rH| (apply cD<;>intro hb<;>(try simp only[aA]at hb)<;>try exact aM))
     all_goals try exact false
     ·rw [if_neg (by rw [hb1 (by simp_all)];simp)] at hr
      subst hr
      exact aT
     ·refine ⟨k+1,⟨by omega,hb2 (by simp_all)⟩,by omega,?_⟩
      exact aV
end Go.Proofs.YtnjgoldinaffgaaGreatDoor
