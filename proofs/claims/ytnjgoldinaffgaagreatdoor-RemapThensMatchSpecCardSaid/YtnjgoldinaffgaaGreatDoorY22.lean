/- Paths: what the program says of one; numbers of the reference (walks). Two maps, one behind the other: lists without conditions and doubles, as the program finds them (walk). -/
import Derived.Test.YtnjgoldinaffgaaGreatDoorY21
import Derived.Lib.LastIndexByte
import Derived.Test.YtnjgoldinaffgaaGreatDoorY1
import Derived.StringKeys
import Derived.Lib.Walk
import Derived.Laws.AppendOwn
import Derived.Sort.Row
import Derived.Ground.SlgnProg
namespace Go.Proofs.YtnjgoldinaffgaaGreatDoor
open _root_.Go.Proofs.Tryz
set_option linter.unusedSimpArgs false
set_option linter.unusedVariables false
open Go.RowKit
set_option maxRecDepth 100000
set_option maxHeartbeats 1000000
theorem yD {c:UInt8}:∀ (a r:List UInt8),c ∉ r→aF c (a++c::r)=aF c a ++ [r]
 |[],r,h=>by rw [List.nil_append,show aF c (c::r) = []::aF c r by rw [aF,if_pos rfl],iH h];rfl
 |b::a,r,h=>by
  rw [List.cons_append,aF,aF,yD a r h]
  split
  ·rfl
  ·cases hw:aF c a with
   |nil=>exact absurd hw (fZ a)
   |cons x t=>rfl
theorem zEW (p:Str):(Lib.lastIndexByte ⟨p.toArray⟩ 47 = -1∧aF 47 p = [p])∨
  ∃ i:Nat,Lib.lastIndexByte ⟨p.toArray⟩ 47=i∧i < p.length∧aF 47 p=aF 47 (p.take i) ++ [p.drop (i+1)]:=by
 have hsz:(⟨p.toArray⟩:ByteArray).size=p.length:=by show p.toArray.size=_;simp
 have hget:∀ j:Nat,j < p.length→∃ x,p[j]?=some x∧(⟨p.toArray⟩:ByteArray).data[j]! = x:=fun j hj=>by
  refine ⟨p[j],List.getElem?_eq_getElem hj,?_⟩
  show (p.toArray)[j]! = _
  rw [getElem!_pos p.toArray j (by simpa using hj)]
  simp
 rcases Lib.lastIndexByte_spec ⟨p.toArray⟩ 47 with ⟨h1,h2⟩|⟨i,h1,h2,h3,h4⟩
 ·refine .inl ⟨h1,iH fun hm => ?_⟩
  obtain ⟨j,hj⟩:=List.mem_iff_getElem?.1 hm
  have hjl:=(bC hj)
  obtain ⟨x,hx,he⟩:=hget j hjl
  rw [hj] at hx
  cases hx
  exact h2 j (by rw [hsz];exact hjl) (by rw [he];rfl)
 ·rw [hsz] at h1
  refine .inr ⟨i,h2,h1,?_⟩
  obtain ⟨x,hx,he⟩:=hget i h1
  rw [he] at h3
  obtain rfl:x=47:=by
   apply UInt8.toNat_inj.1
   have:(47:UInt8).toNat=47:=rfl
   omega
  have hd:p=p.take i++47::p.drop (i+1):=by
   have:=List.drop_eq_getElem_cons h1
   rw [(List.getElem?_eq_some_iff.1 hx).2] at this
   rw [← this,List.take_append_drop]
  have hn:(47:UInt8) ∉ p.drop (i+1):=fun hm=>by
   obtain ⟨j,hj⟩:=List.mem_iff_getElem?.1 hm
   rw [List.getElem?_drop] at hj
   have hjl:=(bC hj)
   obtain ⟨y,hy,he⟩:=hget (i+1+j) hjl
   rw [hj] at hy
   cases hy
   exact h4 (i+1+j) (by omega) (by rw [hsz];exact hjl) (by rw [he];rfl)
  conv=>lhs;rw [hd]
  exact yD _ _ hn
def zW:Wy:=([],[],0,0)
def iB (p:Str):Wy × Bool:=
 if (aF 47 p).dropLast.all aR=true then fY (aF 47 p).dropLast (aF 46 ((aF 47 p).getLast?.getD [])) else (zW,false)
theorem wL (p:Str) (hp:p.length≤1000):Sem Tryz.prog 53 [.str p] (.tup [.agg (iB p).1.row,.bool (iB p).2]):=by
 rcases zEW p with ⟨h1,h2⟩|⟨i,h1,h2,h3⟩
 ·unfold iB
  rw [h2]
  exact xB p hp h1
 ·unfold iB
  rw [h3,List.dropLast_concat,List.getLast?_concat]
  by_cases hn:(aF 47 (p.take i)).all aR=true
  ·rw [if_pos hn]
   exact xA p i hp h1 h2 hn
  ·rw [if_neg hn]
   exact zBA p i hp h1 h2 (by simpa [mW] using hn)
def bW (p:Str):Int:=if 200 < p.length then 2 else if (iB p).2=true then 0 else 10
theorem iQ (p:Str):Sem Tryz.prog 189 [.str p] (.int .i64 (bW p)):=by
 have h:=fun h:p.length≤1000=>wL p h
 unfold bW
 generalize iB p=r at h ⊢
 obtain ⟨w,b⟩:=r
 dsimp only at h ⊢
 unfold Wy.row at h
 refine si [] func189 ?_
 repeat'((conv=>whnf);first|(try(first|apply eN|apply eI|apply eC);conv=>whnf);apply sD;(focus first|(refine gx (h (by omega))<;>exact pre)|(refine gx (wL ?_ ?_)<;>exact pre)|(refine gx (xB ?_ ?_ ?_)<;>exact pre)|(refine gx (xA ?_ ?_ ?_ ?_ ?_ ?_)<;>exact pre)|(refine gx (zBA ?_ ?_ ?_ ?_ ?_ ?_)<;>exact pre)|exact bV)|apply rR|apply rE|apply rH| (apply cD<;>intro hb<;>(try simp only[aA]at hb)<;>try exact aM))
 all_goals try exact false
 all_goals (
  repeat' ((conv=>whnf);first|exact aI|with_reducible first|apply And.intro|apply oR|apply oN|apply dC)
  all_goals (conv=>whnf)
  refine aJ ?_
  clear h
  cases b<;>simp at hb ⊢<;>omega)
theorem uP (n a b:Int):Sem Tryz.prog 150 [.int .i64 n,.int .i64 a,.int .i64 b] (.bool (decide (a≤n) && decide (n≤b))):=by
 refine si [] func150 ?_
 repeat'((conv=>whnf);first|(try(first|apply eN);conv=>whnf);apply sD;(focus(try intro hc;have hc0:=hc;(try simp only[aA]at hc);try refine aE ?_);first|exact aC)|apply rR|apply rE|apply rH| (apply cD<;>intro hb<;>(try simp only[aA]at hb)<;>try exact aM))
 all_goals try exact false
 exact aT
theorem zDU{p:Prop}(h:p:=by first|(refine gx (tJ ?_ ?_ ?_ ?_)<;>exact pre)):p:=h
theorem wA (s:Str) (hs:s.length≤9223372036854775807):Sem Tryz.prog 149 [.str s,.int .i64 3] (.tup [.int .i64 (eQ s).1,.bool (eQ s).2]):=by
 by_cases h1:s.length < 1∨3 < s.length∨(1 < s.length∧(s.getD (Int.toNat 0) 0).toNat=48)
 ·have e:eQ s=(0,false):=by
   unfold eQ
   rw [if_neg]
   unfold rN oQ
   simp only [Bool.and_eq_true,decide_eq_true_eq,Bool.not_eq_true',Bool.and_eq_false_iff,decide_eq_false_iff_not]
   omega
  rw [e]
  by_cases h0:s = []
  ·subst h0
   refine si [] func149 ?_
   repeat'((conv=>whnf);first|(try(first|apply eN|apply eT|apply eC);conv=>whnf);apply sD;(focus(try intro hc;have hc0:=hc;(try simp only[aA]at hc);try refine aE ?_);first|exact zDU|exact aC)|apply rR|apply rE|apply rH| (apply cD<;>intro hb<;>(try simp only[aA]at hb)<;>try exact aM))
   all_goals try exact false
   exact aT
  ·refine si [] func149 ?_
   repeat'((conv=>whnf);first|(try(first|apply eN|apply eT|apply eC);conv=>whnf);apply sD;(focus(try intro hc;have hc0:=hc;(try simp only[aA]at hc);try refine aE ?_);first|exact zDU|exact aC)|apply rR|apply rE|apply rH| ((apply cD)<;>intro hb<;>(try simp only [aA] at hb)<;>(try first|exact aM|((exfalso;simp_all;omega);done))))
   all_goals try exact false
   exact aT
 ·have hne:s ≠ []:=fun e=>by subst e;simp at h1
  have hc:rN s=s.all cN:=by
   unfold rN oQ
   rw [show decide (1≤s.length)=true by simp;omega,show decide (s.length≤3)=true by simp;omega,Bool.true_and,Bool.true_and]
   rw [show (decide (1 < s.length) && decide ((s.getD (Int.toNat 0) 0).toNat=48))=false by simp only [Bool.and_eq_false_iff,decide_eq_false_iff_not];omega]
   rfl
  have hN:eQ s=if s.all cN=true then (zCh s,true) else (0,false):=by unfold eQ;rw [hc]
  have hA:s.all cN=true→Sem Tryz.prog 133 [.str s] (.tup [.int .i64 (zCh s),.pv .nilIface]):=fun h=>tJ s (zCh s) (by omega) (zD6 (by omega) h)
  generalize eQ s=r at hN ⊢
  generalize zCh s=v at hA hN
  refine si [] func149 ?_
  repeat'((conv=>whnf);first|(try(first|apply eN|apply eT|apply eC);conv=>whnf);apply sD;(focus(try intro hc;have hc0:=hc;(try simp only[aA]at hc);try refine aE ?_);first|exact zDU|exact aC)|apply rR|apply rE|apply rH| ((apply cD)<;>intro hb<;>(try simp only [aA] at hb)<;>(try first|exact aM|((exfalso;simp_all;omega);done))))
  all_goals try exact false
  refine aL (M:=fun t=>gF t []) hT hM (fun k:Nat => [(6,.int .i64 k)]) (fun k=>k≤s.length∧(s.take k).all cN=true) (fun k=>s.length - k) (0) ?_ ?_ ?_
  ·exact aV
  ·exact ⟨by omega,rfl⟩
  ·rintro k ⟨hk,hall⟩
   cases hx:s[k]? with
   |none=>
    have hm:=List.getElem?_eq_none_iff.1 hx
    rw [List.take_of_length_le hm] at hall
    have hA:=hA hall
    rw [if_pos hall] at hN
    subst hN
    repeat'((conv=>whnf);first|(try(first|apply eN|apply eT|apply eC);conv=>whnf);apply sD;(focus(try intro hc;have hc0:=hc;(try simp only[aA]at hc);try refine aE ?_);first|exact gx hA|exact zDU|exact aC)|apply rR|apply rE|apply rH| (apply cD<;>intro hb<;>(try simp only[aA]at hb)<;>try exact aM))
    all_goals try exact false
    exact aT
   |some x=>
    have hlt:=(bC hx)
    repeat'((conv=>whnf);first|(try(first|apply eN|apply eT|apply eC);conv=>whnf);apply sD;(focus(try intro hc;have hc0:=hc;(try simp only[aA]at hc);try refine aE ?_);first|exact zDU|exact aC)|apply rR|apply rE|apply rH| (apply cD<;>intro hb<;>(try simp only[aA]at hb)<;>try exact aM))
    all_goals try exact false
    ·simp [List.getD_eq_getElem?_getD,hx] at hb
     have hf:s.all cN=false:=by
      rw [List.all_eq_false]
      exact ⟨x,aK hx,by simp [cN];omega⟩
     rw [hf] at hN
     subst hN
     exact aT
    ·refine ⟨k+1,⟨by omega,?_⟩,by omega,?_⟩
     ·simp [List.getD_eq_getElem?_getD,hx] at hb
      have:cN x=true:=by simp [cN];omega
      rw [eZ hx,List.all_append,hall]
      simp [this]
     ·exact aV
theorem zAI (s:Str) (m:Int) (hs:s.length≤9223372036854775807):Sem Tryz.prog 102 [.str s,.int .i64 m] (.tup [.int .i64 (eQ s).1,.bool (nN s m)]):=by
 have h:=wA s hs
 unfold nN zBM
 generalize eQ s=r at h ⊢
 obtain ⟨n,o⟩:=r
 dsimp only at h ⊢
 have hw:=uP n 1 m
 refine si [] func102 ?_
 repeat'((conv=>whnf);first|(try(first|apply eN|apply eC);conv=>whnf);apply sD;(focus(try intro hc;have hc0:=hc;(try simp only[aA]at hc);try refine aE ?_);first|exact gx h|exact gx hw|(refine gx (wA ?_ ?_)<;>exact pre)|(refine gx (uP ?_ ?_ ?_)<;>exact pre)|exact aC)|apply rR|apply rE|apply rH| (apply cD<;>intro hb<;>(try simp only[aA]at hb)<;>try exact aM))
 all_goals try exact false
 repeat' ((conv=>whnf);first|exact aI|with_reducible first|apply And.intro|apply oR|apply oN|apply dC)
 all_goals (conv=>whnf)
 refine aS ?_
 by_cases h1:n < 1<;>by_cases h2:m < n<;>cases o<;>simp [h1,h2]<;>omega
set_option maxHeartbeats 4000000
def jL (k:Int) (nk:Nat) (p:Str) (vs:List Str) (lo hi:Int):Int:=
 if k < 1∨9 < k then 4 else if oW k nk p vs.length lo hi=true then 3
 else if nY k=true then (if bH p ≠ 0 then bH p else if p = [] then 9 else 0)
 else if 4≤k∧bW p ≠ 0 then bW p
 else if k=5 then dX vs else if k=6∨k=9 then lC k lo hi else 0
theorem sP (k:Int) (rows:List (List D)) (p:Str) (vs:List Str) (lo hi:Int):Sem Tryz.prog 190 [.agg [.int .i64 k,.sl 0 6 rows,.str p,.sl 0 1 (vs.map fun s => [.str s]),.int .i64 lo,.int .i64 hi]] (.int .i64 (jL k rows.length p vs lo hi)):=by
 have h1:=iQ p
 have h2:=qJ k rows p (vs.map fun s => [.str s]) lo hi
 rw [List.length_map] at h2
 have h3:=mH k
 have h4:=nA k
 have h5:=bJ k 1 9
 have h6:=gD p
 have h7:=nE vs
 have h8:=qM k rows p (vs.map fun s => [.str s]) lo hi
 have hr:jL k rows.length p vs lo hi=if k < 1∨9 < k then 4 else if oW k rows.length p vs.length lo hi=true then 3
  else if nY k=true then (if bH p ≠ 0 then bH p else if p = [] then 9 else 0)
  else if 4≤k∧bW p ≠ 0 then bW p
  else if k=5 then dX vs else if k=6∨k=9 then lC k lo hi else 0:=rfl
 generalize jL k rows.length p vs lo hi=r at hr ⊢
 generalize bW p=pe at h1 hr
 generalize bH p=ge at h6 hr
 generalize dX vs=ve at h7 hr
 generalize lC k lo hi=ee at h8 hr
 generalize oW k rows.length p vs.length lo hi=fb at h2 hr
 generalize iL k=ub at h3
 generalize nY k=ob at h4 hr
 refine si [3,2000003,1000157] func190 ?_
 repeat'((conv=>whnf);first|(try(first|apply eN|apply eI|apply eC);conv=>whnf);apply sD;(focus first|exact gx h1|exact gx h2|exact gx h3|exact gx h4|exact gx h5|exact gx h6|exact gx h7|exact gx h8|(refine gx (fK ?_ ?_)<;>exact pre)|(refine gx (bJ ?_ ?_ ?_)<;>exact pre)|(refine gx (qJ ?_ ?_ ?_ ?_ ?_ ?_)<;>exact pre)|(refine gx (mH ?_)<;>exact pre)|(refine gx (nA ?_)<;>exact pre)|(refine gx (gD ?_)<;>exact pre)|(refine gx (iQ ?_)<;>exact pre)|(refine gx (nE ?_)<;>exact pre)|(refine gx (qM ?_ ?_ ?_ ?_ ?_ ?_)<;>exact pre)|exact bV)|apply rR|apply rE|apply rH| (apply cD<;>intro hb<;>(try simp only[aA]at hb)<;>try exact aM))
 all_goals try exact false
 all_goals (
  repeat' ((conv=>whnf);first|exact aI|with_reducible first|apply And.intro|apply oR|apply oN|apply dC)
  all_goals (conv=>whnf)
  refine aJ ?_
  rw [hr]
  clear h1 h2 h3 h4 h5 h6 h7 h8 hr
  repeat' split
  all_goals first|omega|rfl|(simp_all;done)|(simp_all;omega))
mutual
def Cond.chk:Cond→Int→Int→Int × Int
 |.mk k ks p vs lo hi,d,n=>if 200 < n+1∨6 < d then (n+1,2) else if jL k ks.length p vs lo hi ≠ 0 then (n+1,jL k ks.length p vs lo hi) else Cond.chks ks (d+1) (n+1)
def Cond.chks:List Cond→Int→Int→Int × Int
 |[],_,n=>(n,0)
 |c::l,d,n=>if (c.chk d n).2 ≠ 0 then c.chk d n else Cond.chks l d (c.chk d n).1
end
theorem zFh (k:Int) (ks:List Cond) (p:Str) (vs:List Str) (lo hi:Int) (d n:Int):(Cond.mk k ks p vs lo hi).chk d n=if 200 < n+1∨6 < d then (n+1,2) else if jL k ks.length p vs lo hi ≠ 0 then (n+1,jL k ks.length p vs lo hi) else Cond.chks ks (d+1) (n+1):=by
 rw [Cond.chk]
theorem zGe {l:List Cond} {i:Nat} {c:Cond} (h:l[i]?=some c) (d n:Int):Cond.chks (l.drop i) d n=if (c.chk d n).2 ≠ 0 then c.chk d n else Cond.chks (l.drop (i+1)) d (c.chk d n).1:=by
 rw [List.drop_eq_getElem_cons (bC h),(List.getElem?_eq_some_iff.1 h).2,Cond.chks]
attribute [irreducible] Cond.chk Cond.chks
theorem zQ (d n:Int):Cond.chks [] d n=(n,0):=by rw [Cond.chks]
theorem zGd {d:Int}:∀ (l:List Cond),(∀ c ∈ l,∀ n,n≤200→n < (c.chk d n).1∧((c.chk d n).2=0→(c.chk d n).1≤200))→∀ n,n≤200→n≤(Cond.chks l d n).1∧((Cond.chks l d n).2=0→(Cond.chks l d n).1≤200)
 |[],_,n,h=>by rw [zQ];exact ⟨Int.le_refl _,fun _=>h⟩
 |c::l,hc,n,h=>by
  obtain ⟨h1,h2⟩:=hc c (by simp) n h
  rw [Cond.chks]
  by_cases he:(c.chk d n).2=0
  ·rw [if_neg (by simp [he])]
   obtain ⟨h3,h4⟩:=zGd l (fun x hx=>hc x (by simp [hx])) _ (h2 he)
   exact ⟨by omega,h4⟩
  ·rw [if_pos he]
   exact ⟨by omega,fun e=>absurd e he⟩
theorem zKC (c:Cond):∀ d n:Int,n≤200→n < (c.chk d n).1∧((c.chk d n).2=0→(c.chk d n).1≤200):=by
 induction c using Cond.ind with
 |h k ks p vs lo hi ih=>
  intro d n hn
  rw [zFh]
  split
  ·exact ⟨by dsimp only;omega,fun e=>by cases e⟩
  ·split
   ·rename_i he
    exact ⟨by dsimp only;omega,fun e=>absurd e he⟩
   ·obtain ⟨h1,h2⟩:=zGd (d:=d+1) ks (fun c hc n hn=>ih c hc (d+1) n hn) (n+1) (by omega)
    exact ⟨by omega,h2⟩
theorem zKz{p:Prop}(h:p:=by first|(refine gx (sP ?_ ?_ ?_ ?_ ?_ ?_)<;>exact pre)):p:=h
theorem zDX (c:Cond):∀ d n:Int,0≤n→n≤200→0≤d→d≤1000→SemO Tryz.prog 157 (.obj [.int .i64 n]) [.agg c.row,.int .i64 d] (.int .i64 (c.chk d n).2) (some (.obj [.int .i64 (c.chk d n).1])):=by
 induction c using Cond.ind with
 |h k ks p vs lo hi ih=>
  intro d n hn0 hn hd0 hd
  have h1:=sP k (ks.map Cond.row) p vs lo hi
  rw [List.length_map] at h1
  rw [zFh,Cond.row_mk]
  generalize jL k ks.length p vs lo hi=e at h1 ⊢
  generalize hr:(if 200 < n+1∨6 < d then (n+1,(2:Int)) else if e ≠ 0 then (n+1,e) else Cond.chks ks (d+1) (n+1))=r
  refine sO [0,9,1000157] func157 ?_
  repeat'((conv=>whnf);first|(try(first|apply eN|apply eI|apply eC);conv=>whnf);apply sD;(focus(try intro hc;have hc0:=hc;(try simp only[aA]at hc);try refine aE ?_);first|exact gx h1|exact zKz|exact aC)|((with_reducible apply CallO.go);(conv=>whnf);apply sD;(focus first|(apply aU (zBo _ _ _ _ _ _ _);all_goals exact eX)))|apply rR|apply rE|apply rH| (apply cD<;>intro hb<;>(try simp only[aA]at hb)<;>try exact aM))
  all_goals try exact false
  ·rw [if_pos (by omega)] at hr
   subst hr
   exact aT
  ·rw [if_neg (by omega),if_pos (by omega)] at hr
   subst hr
   exact aT
  ·have hll:(ks.map Cond.row).length=ks.length:=List.length_map _
   rw [if_neg (by omega),if_neg (by omega)] at hr
   refine aL (M:=fun t=>gF t [0,9,1000157]) hT hM (fun x:Nat × Int => [(35,.int .i64 x.1),(0,.obj [.int .i64 x.2])]) (fun x=>x.1≤ks.length∧n+1+x.1≤x.2∧x.2≤200∧Cond.chks (ks.drop x.1) (d+1) x.2=r) (fun x=>ks.length - x.1) ((0,n+1)) ?_ ?_ ?_
   ·exact aV
   ·exact ⟨Nat.zero_le _,by dsimp only;omega,by dsimp only;omega,hr⟩
   ·rintro ⟨i,m⟩ ⟨hi,hm1,hm2,hv⟩
    dsimp only at hi hm1 hm2 hv ⊢
    cases hx:ks[i]? with
    |none=>
     have hm:=List.getElem?_eq_none_iff.1 hx
     rw [List.drop_of_length_le hm,zQ] at hv
     subst hv
     repeat'((conv=>whnf);first|(try(first|apply eN|apply eI|apply eC);conv=>whnf);apply sD;(focus(try intro hc;have hc0:=hc;(try simp only[aA]at hc);try refine aE ?_);first|exact zKz|exact aC)|((with_reducible apply CallO.go);(conv=>whnf);apply sD;(focus first|(apply aU (zBo _ _ _ _ _ _ _);all_goals exact eX)))|apply rR|apply rE|apply rH| (apply cD<;>intro hb<;>(try simp only[aA]at hb)<;>try exact aM))
     all_goals try exact false
     exact aT
    |some x=>
     have hlt:=(bC hx)
     obtain ⟨hb1,hb2⟩:=zKC x (d+1) m hm2
     have ih':=ih x (aK hx) (d+1) m (by omega) hm2 (by omega) (by omega)
     rw [zGe hx] at hv
     generalize x.chk (d+1) m=y at hv ih' hb1 hb2
     obtain ⟨m2,e2⟩:=y
     obtain ⟨k1,ks1,p1,vs1,lo1,hi1⟩:=x
     rw [Cond.row_mk] at ih'
     dsimp only at hv ih' hb1 hb2
     repeat'((conv=>whnf);first|(try(first|apply eN|apply eI|apply eC);conv=>whnf);apply sD;(focus(try intro hc;have hc0:=hc;(try simp only[aA]at hc);try refine aE ?_);first|(exact wU hx rfl)|exact zKz|exact aC)|((with_reducible apply CallO.go);(conv=>whnf);apply sD;(focus first|(apply aU (ih');all_goals exact eX)))|apply rR|apply rE|apply rH| (apply cD<;>intro hb<;>(try simp only[aA]at hb)<;>try exact aM))
     all_goals try exact false
     ·rw [if_pos (by omega)] at hv
      subst hv
      exact aT
     ·rw [if_neg (by omega)] at hv
      refine ⟨(i+1,m2),⟨by dsimp only;omega,by dsimp only;omega,by dsimp only;omega,hv⟩,by dsimp only;omega,?_⟩
      exact aV
theorem zBo (c:Cond) (d n:Int) (h0:0≤n) (h1:n≤200) (h2:0≤d) (h3:d≤1000):SemO Tryz.prog 157 (.obj [.int .i64 n]) [.agg c.row,.int .i64 d] (.int .i64 (c.chk d n).2) (some (.obj [.int .i64 (c.chk d n).1])):=zDX c d n h0 h1 h2 h3
def Cond.err (c:Cond):Int:=(c.chk 0 0).2
theorem qP (c:Cond):Sem Tryz.prog 114 [.agg c.row] (.int .i64 c.err):=by
 have h:=zDX c 0 0 (by omega) (by omega) (by omega) (by omega)
 unfold Cond.err
 generalize c.chk 0 0=y at h ⊢
 obtain ⟨m,e⟩:=y
 obtain ⟨k,ks,p,vs,lo,hi⟩:=c
 rw [Cond.row_mk] at h ⊢
 dsimp only at h ⊢
 refine si [4,1000157] func114 ?_
 repeat'((conv=>whnf);first|(try(first|apply eN|apply eI|apply eC);conv=>whnf);apply sD;(focus first|exact bV)|((with_reducible apply CallO.go);(conv=>whnf);apply sD;(focus first|(apply aU (h);all_goals exact eX)))|apply rR|apply rE|apply rH| (apply cD<;>intro hb<;>(try simp only[aA]at hb)<;>try exact aM))
 all_goals try exact false
 exact aT
inductive Cond.Txt:Cond→Prop where
 |mk {k:Int} {ks:List Cond} {p:Str} {vs:List Str} {lo hi:Int} (hp:p.length≤9223372036854775807) (hv:∀ v ∈ vs,v.length≤9223372036854775807) (hk:∀ x ∈ ks,x.Txt):(Cond.mk k ks p vs lo hi).Txt
end Go.Proofs.YtnjgoldinaffgaaGreatDoor
namespace Go.Proofs.YtnjgoldinaffgaaGreatDoor
set_option linter.unusedSimpArgs false
set_option linter.unusedVariables false
open Go.RowKit
set_option maxRecDepth 100000
structure Fld where
 el:Int
 pt:Int
 kind:Int
 text:Str
 path:Str
 table:Str
def Fld.row (f:Fld):List D := [.int .i64 f.el,.int .i64 f.pt,.int .i64 f.kind,.str f.text,.str f.path,.str f.table]
def rU (r:Str × Str):List D := [.str r.1,.str r.2]
structure Tb where
 name:Str
 rows:List (Str × Str)
def Tb.row (t:Tb):List D := [.str t.name,.sl 0 2 (t.rows.map rU)]
inductive MStep where
 |mk (kind:Int) (tag:Str) (fields:List Fld) (name over:Str) (cond:Cond) (steps:List MStep)
mutual
def MStep.row:MStep→List D
 |.mk k t fs n o c ss => [.int .i64 k,.str t,.sl 0 6 (fs.map Fld.row),.str n,.str o]++c.row ++ [.sl 0 12 (MStep.rows ss)]
def MStep.rows:List MStep→List (List D)
 |[] => []
 |c::l=>c.row::MStep.rows l
end
theorem MStep.rows_map (l:List MStep):MStep.rows l=l.map MStep.row:=by
 induction l with
 |nil=>rw [MStep.rows,List.map_nil]
 |cons c l ih=>rw [MStep.rows,List.map_cons,ih]
theorem MStep.row_mk (k:Int) (t:Str) (fs:List Fld) (n o:Str) (ck:Int) (cks:List Cond) (cp:Str) (cvs:List Str) (clo chi:Int) (ss:List MStep):
  (MStep.mk k t fs n o (.mk ck cks cp cvs clo chi) ss).row = [.int .i64 k,.str t,.sl 0 6 (fs.map Fld.row),.str n,.str o,.int .i64 ck,.sl 0 6 (cks.map Cond.row),.str cp,.sl 0 1 (cvs.map fun s => [.str s]),.int .i64 clo,.int .i64 chi,.sl 0 12 (ss.map MStep.row)]:=by
 rw [MStep.row,MStep.rows_map,Cond.row_mk]
 rfl
attribute [irreducible] MStep.row
theorem MStep.row_len (c:MStep):c.row.length=12:=by
 obtain ⟨k,t,fs,n,o,⟨ck,cks,cp,cvs,clo,chi⟩,ss⟩:=c
 rw [MStep.row_mk]
 rfl
theorem MStep.ind {p:MStep→Prop} (h:∀ k t fs n o c ss,(∀ x ∈ ss,p x)→p (.mk k t fs n o c ss)) (c:MStep):p c:=
 MStep.rec (motive_1:=p) (motive_2:=fun l=>∀ x ∈ l,p x) (fun k t fs n o c ss ih=>h k t fs n o c ss ih) (fun x hx=>by simp at hx) (fun c l h1 h2 x hx=>by
  rcases List.mem_cons.1 hx with rfl|hx
  ·exact h1
  ·exact h2 x hx) c
structure Mp where
 name:Str
 tables:List Tb
 steps:List MStep
def Mp.row (m:Mp):List D := [.str m.name,.sl 0 2 (m.tables.map Tb.row),.sl 0 12 (m.steps.map MStep.row)]
/-! What is wrong with a map. -/
def qU (prev:Option Str) (r:Str × Str):Int:=
 if (r.1 == [] || !dJ r.1)=true then 3 else if (r.2 == [] || !dJ r.2)=true then 3 else if fI prev r.1=true then 8 else 0
def eH (prev:Option Str):List (Str × Str)→Int
 |[]=>0
 |r::l=>if qU prev r ≠ 0 then qU prev r else eH (some r.1) l
def nG (prev:Option Str) (t:Tb):Int:=
 if aR t.name=false then 5 else if fI prev t.name=true then 8 else if 500 < t.rows.length then 2 else eH none t.rows
def jJ (prev:Option Str):List Tb→Int
 |[]=>0
 |t::l=>if nG prev t ≠ 0 then nG prev t else jJ (some t.name) l
def aW (l:List Tb):Int:=if 20 < l.length then 2 else jJ none l
def iD (l:List Tb) (n:Str):Bool:=l.any fun t=>t.name == n
def eF (tbs:List Tb) (f:Fld):Int:=
 if f.kind < 1∨5 < f.kind then 4
 else if (f.kind ≠ 1∧f.kind ≠ 3∧f.text ≠ [])∨(f.kind=1∧f.path ≠ [])∨(f.kind ≠ 3∧f.table ≠ []) then 3
 else if dJ f.text=false∨(f.kind=1∧f.text = []) then 3
 else if f.kind=1 then 0
 else if bW f.path ≠ 0 then bW f.path
 else if f.kind=3∧iD tbs f.table=false then 9 else 0
def eB (prev:Option Fld) (f:Fld):Bool:=match prev with
 |none=>true
 |some p=>decide (p.el < f.el) || (decide (p.el=f.el) && decide (p.pt < f.pt))
def lM (tbs:List Tb) (prev:Option Fld) (f:Fld):Int:=
 if f.el < 1∨50 < f.el∨f.pt < 1∨20 < f.pt then 1 else if eB prev f=false then 8 else eF tbs f
def eM (tbs:List Tb) (prev:Option Fld):List Fld→Int
 |[]=>0
 |f::l=>if lM tbs prev f ≠ 0 then lM tbs prev f else eM tbs (some f) l
def lK (tbs:List Tb) (tag:Str) (fs:List Fld):Int:=
 if cA tag=false then 5 else if fs.length=0 then 9 else if 30 < fs.length then 2 else eM tbs none fs
def gZ (k:Int) (tag:Str) (nf:Nat) (n o:Str) (z:Bool) (ns:Nat):Bool:=
 if k=1 then n == [] && o == [] && z && decide (ns=0) else if k=2 then tag == [] && decide (nf=0) && z else tag == [] && decide (nf=0) && n == [] && o == []
def zeroM:Cond:=.mk 0 [] [] [] 0 0
def dW (tbs:List Tb) (k:Int) (tag:Str) (fs:List Fld) (n o:Str) (c:Cond) (ns:Nat):Int:=
 if k < 1∨3 < k then 4 else if gZ k tag fs.length n o (c.same zeroM) ns=false then 3
 else if k=1 then lK tbs tag fs
 else if k=2∧aR n=false then 5
 else if k=2∧bH o ≠ 0 then bH o
 else if k=3∧c.err ≠ 0 then c.err
 else if ns=0 then 9 else 0
mutual
def MStep.chk (tbs:List Tb):MStep→Int→Int→Int × Int
 |.mk k t fs n o c ss,d,m=>if 300 < m+1∨6 < d then (m+1,2) else if dW tbs k t fs n o c ss.length ≠ 0 then (m+1,dW tbs k t fs n o c ss.length) else MStep.chks tbs ss (d+1) (m+1)
def MStep.chks (tbs:List Tb):List MStep→Int→Int→Int × Int
 |[],_,m=>(m,0)
 |c::l,d,m=>if (c.chk tbs d m).2 ≠ 0 then c.chk tbs d m else MStep.chks tbs l d (c.chk tbs d m).1
end
theorem sU (tbs:List Tb) (k:Int) (t:Str) (fs:List Fld) (n o:Str) (c:Cond) (ss:List MStep) (d m:Int):(MStep.mk k t fs n o c ss).chk tbs d m=if 300 < m+1∨6 < d then (m+1,2) else if dW tbs k t fs n o c ss.length ≠ 0 then (m+1,dW tbs k t fs n o c ss.length) else MStep.chks tbs ss (d+1) (m+1):=by
 rw [MStep.chk]
theorem oE {tbs:List Tb} {l:List MStep} {i:Nat} {c:MStep} (h:l[i]?=some c) (d m:Int):MStep.chks tbs (l.drop i) d m=if (c.chk tbs d m).2 ≠ 0 then c.chk tbs d m else MStep.chks tbs (l.drop (i+1)) d (c.chk tbs d m).1:=by
 rw [List.drop_eq_getElem_cons (bC h),(List.getElem?_eq_some_iff.1 h).2,MStep.chks]
attribute [irreducible] MStep.chk MStep.chks
theorem pU (tbs:List Tb) (d m:Int):MStep.chks tbs [] d m=(m,0):=by rw [MStep.chks]
theorem zC3 {tbs:List Tb} {d:Int}:∀ (l:List MStep),(∀ c ∈ l,∀ m,m≤300→m < (c.chk tbs d m).1∧((c.chk tbs d m).2=0→(c.chk tbs d m).1≤300))→∀ m,m≤300→m≤(MStep.chks tbs l d m).1∧((MStep.chks tbs l d m).2=0→(MStep.chks tbs l d m).1≤300)
 |[],_,m,h=>by rw [pU];exact ⟨Int.le_refl _,fun _=>h⟩
 |c::l,hc,m,h=>by
  obtain ⟨h1,h2⟩:=hc c (by simp) m h
  rw [MStep.chks]
  by_cases he:(c.chk tbs d m).2=0
  ·rw [if_neg (by simp [he])]
   obtain ⟨h3,h4⟩:=zC3 l (fun x hx=>hc x (by simp [hx])) _ (h2 he)
   exact ⟨by omega,h4⟩
  ·rw [if_pos he]
   exact ⟨by omega,fun e=>absurd e he⟩
theorem sV (tbs:List Tb) (c:MStep):∀ d m:Int,m≤300→m < (c.chk tbs d m).1∧((c.chk tbs d m).2=0→(c.chk tbs d m).1≤300):=by
 induction c using MStep.ind with
 |h k t fs n o c ss ih=>
  intro d m hm
  rw [sU]
  split
  ·exact ⟨by dsimp only;omega,fun e=>by cases e⟩
  ·split
   ·rename_i he
    exact ⟨by dsimp only;omega,fun e=>absurd e he⟩
   ·obtain ⟨h1,h2⟩:=zC3 (d:=d+1) ss (fun c hc m hm=>ih c hc (d+1) m hm) (m+1) (by omega)
    exact ⟨by omega,h2⟩
def Mp.err (m:Mp):Int:=if aR m.name=false then 5 else if aW m.tables ≠ 0 then aW m.tables else if (MStep.chks m.tables m.steps 0 0).2 ≠ 0 then (MStep.chks m.tables m.steps 0 0).2 else if m.steps.length=0 then 9 else 0
theorem zCG {q s:Str} (h:fI (some q) s=false):Op.bytesLess q s=true:=by
 unfold fI at h
 exact zBP h
theorem uX:∀ (prev:Option Str) (l:List (Str × Str)),eH prev l=0→bU Prod.fst l∧∀ q,prev=some q→∀ r ∈ l,Op.bytesLess q r.1=true
 |_,[],_=>⟨List.Pairwise.nil,fun _ _ r hr=>by cases hr⟩
 |prev,r::l,h=>by
  unfold eH at h
  by_cases h0:qU prev r=0
  ·rw [if_neg (by simpa using h0)] at h
   obtain ⟨h1,h2⟩:=uX _ l h
   have h3:=h2 r.1 rfl
   refine ⟨List.pairwise_cons.2 ⟨h3,h1⟩,fun q hq x hx => ?_⟩
   subst hq
   have hp:fI (some q) r.1=false:=by
    unfold qU at h0
    repeat' split at h0
    all_goals first|(cases h0;done)|(simp_all;done)
   have hlt:=zCG hp
   rcases List.mem_cons.1 hx with rfl|hx
   ·exact hlt
   ·exact eU hlt (h3 x hx)
  ·rw [if_pos h0] at h
   exact absurd h h0
theorem xG:∀ (prev:Option Str) (l:List Tb),jJ prev l=0→bU Tb.name l∧(∀ t ∈ l,eH none t.rows=0∧t.rows.length≤500)∧∀ q,prev=some q→∀ t ∈ l,Op.bytesLess q t.name=true
 |_,[],_=>⟨List.Pairwise.nil,fun t ht=>(by cases ht),fun _ _ t ht=>by cases ht⟩
 |prev,t::l,h=>by
  unfold jJ at h
  by_cases h0:nG prev t=0
  ·rw [if_neg (by simpa using h0)] at h
   obtain ⟨h1,h4,h2⟩:=xG _ l h
   have h3:=h2 t.name rfl
   have ht:fI prev t.name=false∧t.rows.length≤500∧eH none t.rows=0:=by
    unfold nG at h0
    split at h0
    ·cases h0
    ·split at h0
     ·cases h0
     ·split at h0
      ·cases h0
      ·rename_i a b c
       exact ⟨by simpa using b,by omega,h0⟩
   refine ⟨List.pairwise_cons.2 ⟨h3,h1⟩,fun x hx => ?_,fun q hq x hx => ?_⟩
   ·rcases List.mem_cons.1 hx with rfl|hx
    ·exact ⟨ht.2.2,ht.2.1⟩
    ·exact h4 x hx
   ·subst hq
    have hlt:=zCG ht.1
    rcases List.mem_cons.1 hx with rfl|hx
    ·exact hlt
    ·exact eU hlt (h3 x hx)
  ·rw [if_pos h0] at h
   exact absurd h h0
theorem dO {l:List Tb} (h:aW l=0):l.length≤20∧bU Tb.name l∧∀ t ∈ l,eH none t.rows=0∧t.rows.length≤500:=by
 unfold aW at h
 split at h
 ·cases h
 ·obtain ⟨h1,h2,_⟩:=xG none l h
  exact ⟨by omega,h1,h2⟩
structure MVal where
 kind:Int
 text:Str
 path:Str
 table:Str
def MVal.row (v:MVal):List D := [.int .i64 v.kind,.str v.text,.str v.path,.str v.table]
def zV:MVal:=⟨0,[],[],[]⟩
def Fld.vl (f:Fld):MVal:=⟨f.kind,f.text,f.path,f.table⟩
def MVal.fld (el pt:Int) (v:MVal):Fld:=⟨el,pt,v.kind,v.text,v.path,v.table⟩
def MStep.kind:MStep→Int | .mk k _ _ _ _ _ _=>k
def MStep.tag:MStep→Str | .mk _ t _ _ _ _ _=>t
def MStep.flds:MStep→List Fld | .mk _ _ f _ _ _ _=>f
def MStep.name:MStep→Str | .mk _ _ _ n _ _ _=>n
def MStep.over:MStep→Str | .mk _ _ _ _ o _ _=>o
def MStep.kids:MStep→List MStep | .mk _ _ _ _ _ _ s=>s
def zH5 (t:Str) (fs:List Fld):MStep:=.mk 1 t fs [] [] zeroM []
def wJ (n o:Str) (ss:List MStep):MStep:=.mk 2 [] [] n o zeroM ss
def zM:MStep:=.mk 0 [] [] [] [] zeroM []
def kW (e p:Int):List Fld→Option MVal
 |[]=>none
 |f::l=>if f.el=e∧f.pt=p then some f.vl else kW e p l
def cS (t:Str) (e p:Int):List MStep→Option MVal
 |[]=>none
 | s::l=>if s.kind=1∧s.tag=t then (match kW e p s.flds with
  |some v=>some v
  | none=>cS t e p l) else cS t e p l
def dZ (s:Str):List (Str × Str)→Option Str
 |[]=>none
 |r::l=>if r.1=s then some r.2 else dZ s l
def cZ (n:Str):List Tb→Option Tb
 |[]=>none
 |t::l=>if t.name=n then some t else cZ n l
def jU (tbs:List Tb) (n:Str):List (Str × Str):=match cZ n tbs with
 |some t=>t.rows
 |none => []
def eE (n:Str):List MStep→Option MStep
 |[]=>none
 |s::l=>if s.kind=2∧s.name=n then some s else eE n l
def kQ (o:Option Str) (d:Str):Str:=match o with
 |some s=>s
 |none=>d
def vG (tbs:List Tb) (v o:MVal):MVal × Bool × Int:=
 if o.kind=2 then (⟨v.kind,v.text,o.path,v.table⟩,true,0)
 else if o.kind=1 then (⟨1,kQ (dZ o.text (jU tbs v.table)) v.text,[],[]⟩,!(kQ (dZ o.text (jU tbs v.table)) v.text == []),0)
 else (zV,false,11)
def cO (n:Int):Int:=if n < 1 then 1 else n
def iC (tbs:List Tb) (v:MVal) (inn:List MStep) (within:Bool):MVal × Bool × Int:=
 if v.kind=1 then (if within=true then (v,false,11) else (v,true,0))
 else if v.kind=4∨v.kind=5 then (v,false,11)
 else if (iB v.path).1.1 ≠ []∨(iB v.path).1.2.2.1=0 then (v,false,11)
 else match cS (iB v.path).1.2.1 (iB v.path).1.2.2.1 (cO (iB v.path).1.2.2.2) inn with
  |none=>(v,false,0)
  |some o=>if v.kind=2 then (o,true,0) else vG tbs v o
def eS (tbs:List Tb) (inn:List MStep) (within:Bool):List Fld→List Fld→List Fld × Int
 |[],acc=>(acc,0)
 |f::l,acc=>if (iC tbs f.vl inn within).2.2 ≠ 0 then (acc,(iC tbs f.vl inn within).2.2) else eS tbs inn within l (if (iC tbs f.vl inn within).2.1=true then acc ++ [(iC tbs f.vl inn within).1.fld f.el f.pt] else acc)
mutual
def dB (tbs:List Tb):MStep→List MStep→Bool→MStep × Bool × Int
 |.mk k t fs n o c ss,inn,within=>
  if k=3 then (.mk k t fs n o c ss,false,11)
  else if k=1 then (if (eS tbs inn within fs []).2 ≠ 0 then (.mk k t fs n o c ss,false,(eS tbs inn within fs []).2) else (.mk k t (eS tbs inn within fs []).1 [] [] zeroM [],!((eS tbs inn within fs []).1.length == 0),0))
  else if o = [] then (.mk k [] [] n [] zeroM (aY tbs ss inn within []).1,!((aY tbs ss inn within []).1.length == 0),(aY tbs ss inn within []).2)
  else match eE o inn with
   |none=>(.mk k t fs n o c ss,false,11)
   |some g=>(.mk k [] [] n g.over zeroM (aY tbs ss g.kids true []).1,!((aY tbs ss g.kids true []).1.length == 0),(aY tbs ss g.kids true []).2)
def aY (tbs:List Tb):List MStep→List MStep→Bool→List MStep→List MStep × Int
 |[],_,_,acc=>(acc,0)
 |s::l,inn,within,acc=>if (dB tbs s inn within).2.2 ≠ 0 then ([],(dB tbs s inn within).2.2) else aY tbs l inn within (if (dB tbs s inn within).2.1=true then acc ++ [(dB tbs s inn within).1] else acc)
end
theorem rX (tbs:List Tb) (k:Int) (t:Str) (fs:List Fld) (n o:Str) (c:Cond) (ss inn:List MStep) (within:Bool):dB tbs (.mk k t fs n o c ss) inn within =
  if k=3 then (.mk k t fs n o c ss,false,11)
  else if k=1 then (if (eS tbs inn within fs []).2 ≠ 0 then (.mk k t fs n o c ss,false,(eS tbs inn within fs []).2) else (.mk k t (eS tbs inn within fs []).1 [] [] zeroM [],!((eS tbs inn within fs []).1.length == 0),0))
  else if o = [] then (.mk k [] [] n [] zeroM (aY tbs ss inn within []).1,!((aY tbs ss inn within []).1.length == 0),(aY tbs ss inn within []).2)
  else match eE o inn with
   |none=>(.mk k t fs n o c ss,false,11)
   |some g=>(.mk k [] [] n g.over zeroM (aY tbs ss g.kids true []).1,!((aY tbs ss g.kids true []).1.length == 0),(aY tbs ss g.kids true []).2):=by rw [dB]
theorem pR {tbs:List Tb} {l:List MStep} {i:Nat} {s:MStep} (h:l[i]?=some s) (inn:List MStep) (within:Bool) (acc:List MStep):aY tbs (l.drop i) inn within acc=if (dB tbs s inn within).2.2 ≠ 0 then ([],(dB tbs s inn within).2.2) else aY tbs (l.drop (i+1)) inn within (if (dB tbs s inn within).2.1=true then acc ++ [(dB tbs s inn within).1] else acc):=by
 rw [List.drop_eq_getElem_cons (bC h),(List.getElem?_eq_some_iff.1 h).2,aY]
theorem mP (tbs:List Tb) (inn:List MStep) (within:Bool) (acc:List MStep):aY tbs [] inn within acc=(acc,0):=by rw [aY]
attribute [irreducible] dB aY
def nM (tbs:List Tb) (l:List MStep) (v:MVal) (over:Bool):MVal × Bool × Bool:=
 if v.kind=1 then (v,true,!over)
 else if (iB v.path).1.1 ≠ []∨(iB v.path).1.2.2.1=0∨v.kind=4∨v.kind=5 then (v,false,false)
 else match cS (iB v.path).1.2.1 (iB v.path).1.2.2.1 (cO (iB v.path).1.2.2.2) l with
  |none=>(zV,false,true)
  |some o=>if v.kind=2 then (o,true,true) else if o.kind=2 then (⟨3,v.text,o.path,v.table⟩,true,true)
   else if o.kind=1 then (⟨1,kQ (dZ o.text (jU tbs v.table)) v.text,[],[]⟩,!(kQ (dZ o.text (jU tbs v.table)) v.text == []),true)
   else (v,false,false)
def iE (tbs:List Tb) (inn:List MStep) (over:Bool):List Fld→List Fld→List Fld × Bool
 |[],acc=>(acc,true)
 |f::l,acc=>if (nM tbs inn f.vl over).2.2=false then (acc,false) else iE tbs inn over l (if (nM tbs inn f.vl over).2.1=true then acc ++ [(nM tbs inn f.vl over).1.fld f.el f.pt] else acc)
mutual
def nR (tbs:List Tb):MStep→List MStep→Bool→List MStep × Bool
 |.mk k t fs n o _ ss,l,over=>
  if k=3 then ([],false)
  else if k=1 then (if (iE tbs l over fs []).2=false then ([],false) else (if (iE tbs l over fs []).1.length=0 then [] else [zH5 t (iE tbs l over fs []).1],true))
  else if o = [] then (if (aZ tbs ss l over []).2=false then ([],false) else (if (aZ tbs ss l over []).1.length=0 then [] else [wJ n [] (aZ tbs ss l over []).1],true))
  else match (if (fN o).1.length=1 then eE ((fN o).1.headD []) l else none) with
   |none=>([],false)
   |some g=>if (aZ tbs ss g.kids true []).2=false then ([],false) else (if (aZ tbs ss g.kids true []).1.length=0 then [] else [wJ n g.over (aZ tbs ss g.kids true []).1],true)
def aZ (tbs:List Tb):List MStep→List MStep→Bool→List MStep→List MStep × Bool
 |[],_,_,acc=>(acc,true)
 |s::r,l,over,acc=>if (nR tbs s l over).2=false then ([],false) else aZ tbs r l over (acc++(nR tbs s l over).1)
end
theorem zCp (tbs:List Tb) (k:Int) (t:Str) (fs:List Fld) (n o:Str) (c:Cond) (ss l:List MStep) (over:Bool):nR tbs (.mk k t fs n o c ss) l over =
  if k=3 then ([],false)
  else if k=1 then (if (iE tbs l over fs []).2=false then ([],false) else (if (iE tbs l over fs []).1.length=0 then [] else [zH5 t (iE tbs l over fs []).1],true))
  else if o = [] then (if (aZ tbs ss l over []).2=false then ([],false) else (if (aZ tbs ss l over []).1.length=0 then [] else [wJ n [] (aZ tbs ss l over []).1],true))
  else match (if (fN o).1.length=1 then eE ((fN o).1.headD []) l else none) with
   |none=>([],false)
   |some g=>if (aZ tbs ss g.kids true []).2=false then ([],false) else (if (aZ tbs ss g.kids true []).1.length=0 then [] else [wJ n g.over (aZ tbs ss g.kids true []).1],true):=by rw [nR]
theorem zAC {tbs:List Tb} {r:List MStep} {i:Nat} {s:MStep} (h:r[i]?=some s) (l:List MStep) (over:Bool) (acc:List MStep):aZ tbs (r.drop i) l over acc=if (nR tbs s l over).2=false then ([],false) else aZ tbs (r.drop (i+1)) l over (acc++(nR tbs s l over).1):=by
 rw [List.drop_eq_getElem_cons (bC h),(List.getElem?_eq_some_iff.1 h).2,aZ]
theorem xJ (tbs:List Tb) (l:List MStep) (over:Bool) (acc:List MStep):aZ tbs [] l over acc=(acc,true):=by rw [aZ]
attribute [irreducible] nR aZ
inductive MStep.Good (tbs:List Tb):MStep→Prop where
 |mk {k:Int} {t:Str} {fs:List Fld} {n o:Str} {c:Cond} {ss:List MStep} (he:dW tbs k t fs n o c ss.length=0) (hs:∀ s ∈ ss,s.Good tbs):(MStep.mk k t fs n o c ss).Good tbs
theorem rD {tbs:List Tb} {d:Int}:∀ (l:List MStep),(∀ s ∈ l,∀ d m,(s.chk tbs d m).2=0→s.Good tbs)→∀ m,(MStep.chks tbs l d m).2=0→∀ s ∈ l,s.Good tbs
 |[],_,_,_=>fun s h=>by cases h
 |c::l,hc,m,h=>by
  rw [show c::l=(c::l).drop 0 from rfl,oE (i:=0) rfl] at h
  split at h
  ·rename_i he;exact absurd h he
  ·rename_i he
   have he:(c.chk tbs d m).2=0:=by simpa using he
   intro s hs
   rcases List.mem_cons.1 hs with rfl|hs
   ·exact hc s (by simp) d m he
   ·exact rD l (fun x hx=>hc x (by simp [hx])) _ h s hs
theorem zHa (tbs:List Tb) (s:MStep):∀ d m,(s.chk tbs d m).2=0→s.Good tbs:=by
 induction s using MStep.ind with
 |h k t fs n o c ss ih=>
  intro d m h
  rw [sU] at h
  split at h
  ·cases h
  ·split at h
   ·rename_i he;exact absurd h he
   ·rename_i he
    exact .mk (by simpa using he) (rD ss (fun s hs d m=>ih s hs d m) _ h)
theorem uH {m:Mp} (h:m.err=0):aR m.name=true∧aW m.tables=0∧(MStep.chks m.tables m.steps 0 0).2=0∧m.steps.length ≠ 0:=by
 unfold Mp.err at h
 split at h
 ·cases h
 ·rename_i h1
  split at h
  ·rename_i h2;exact absurd h h2
  ·rename_i h2
   split at h
   ·rename_i h3;exact absurd h h3
   ·rename_i h3
    split at h
    ·cases h
    ·rename_i h4
     exact ⟨by simpa using h1,by simpa using h2,by simpa using h3,h4⟩
theorem fS {m:Mp} (h:m.err=0):∀ s ∈ m.steps,s.Good m.tables:=
 rD m.steps (fun s _ d k=>zHa m.tables s d k) 0 (uH h).2.2.1
theorem dH {m:Mp} (h:m.err=0):aW m.tables=0:=(uH h).2.1
theorem cQ {tbs:List Tb} {k:Int} {t:Str} {fs:List Fld} {n o:Str} {c:Cond} {ss:List MStep} (h:(MStep.mk k t fs n o c ss).Good tbs):dW tbs k t fs n o c ss.length=0∧∀ s ∈ ss,s.Good tbs:=by
 cases h with|mk he hs=>exact ⟨he,hs⟩
theorem vU {tbs:List Tb}:∀ (prev:Option Fld) (l:List Fld),eM tbs prev l=0→∀ f ∈ l,eF tbs f=0∧1≤f.el∧f.el≤50∧1≤f.pt∧f.pt≤20
 |_,[],_=>fun f h=>by cases h
 |prev,f::l,h=>by
  unfold eM at h
  by_cases h0:lM tbs prev f=0
  ·rw [if_neg (by simpa using h0)] at h
   intro x hx
   rcases List.mem_cons.1 hx with rfl|hx
   ·unfold lM at h0
    split at h0
    ·cases h0
    ·split at h0
     ·cases h0
     ·exact ⟨h0,by omega,by omega,by omega,by omega⟩
   ·exact vU _ l h x hx
  ·rw [if_pos h0] at h
   exact absurd h h0
structure Step0 (tbs:List Tb) (k:Int) (t:Str) (fs:List Fld) (n o:Str) (c:Cond) (ns:Nat):Prop where
 k1:1≤k
 k3:k≤3
 seg:k=1→n = []∧o = []∧c=zeroM∧ns=0∧cA t=true∧fs.length≤30∧∀ f ∈ fs,eF tbs f=0∧1≤f.el∧f.el≤50∧1≤f.pt∧f.pt≤20
 grp:k=2→t = []∧fs = []∧c=zeroM∧aR n=true∧bH o=0
theorem rY {tbs:List Tb} {k:Int} {t:Str} {fs:List Fld} {n o:Str} {c:Cond} {ns:Nat} (h:dW tbs k t fs n o c ns=0):Step0 tbs k t fs n o c ns:=by
 unfold dW at h
 split at h
 ·cases h
 ·rename_i hk
  split at h
  ·cases h
  ·rename_i hf
   refine ⟨by omega,by omega,fun h1 => ?_,fun h2 => ?_⟩
   ·subst h1
    unfold gZ at hf
    rw [if_pos rfl] at h hf
    have hf:(n = []∧o = [])∧c.same zeroM=true∧ns=0:=by simpa [and_assoc] using hf
    unfold lK at h
    split at h
    ·cases h
    ·split at h
     ·cases h
     ·split at h
      ·cases h
      ·rename_i a b d
       exact ⟨hf.1.1,hf.1.2,(Cond.same_iff _ _).1 hf.2.1,hf.2.2,by simpa using a,by omega,vU none fs h⟩
   ·subst h2
    unfold gZ at hf
    rw [if_neg (by decide),if_pos rfl] at hf
    rw [if_neg (by decide)] at h
    have hf:(t = []∧fs = [])∧c.same zeroM=true:=by simpa [and_assoc] using hf
    split at h
    ·cases h
    ·rename_i hn
     split at h
     ·rename_i hg;exact absurd h hg.2
     ·rename_i hg
      exact ⟨hf.1.1,hf.1.2,(Cond.same_iff _ _).1 hf.2,by simpa using hn,by simpa using hg⟩
theorem tO {tbs:List Tb} {f:Fld} (h:eF tbs f=0):1≤f.kind∧f.kind≤5∧(f.kind ≠ 1→bW f.path=0)∧(f.kind=3→iD tbs f.table=true):=by
 unfold eF at h
 split at h
 ·cases h
 ·rename_i hk
  split at h
  ·cases h
  ·split at h
   ·cases h
   ·split at h
    ·rename_i h1
     exact ⟨by omega,by omega,fun h=>absurd h1 h,fun h=>by omega⟩
    ·split at h
     ·rename_i hp;exact absurd h hp
     ·rename_i hp
      split at h
      ·cases h
      ·rename_i ht
       exact ⟨by omega,by omega,fun _=>by simpa using hp,fun h3=>by simpa [h3] using ht⟩
theorem zHN (tbs:List Tb) (inn:List MStep) (within:Bool) {f:Fld} (h:eF tbs f=0):
  ((iC tbs f.vl inn within).2.2 ≠ 0∧(nM tbs inn f.vl within).2.2=false)∨((iC tbs f.vl inn within).2.2=0∧(nM tbs inn f.vl within).2.2=true∧(iC tbs f.vl inn within).2.1=(nM tbs inn f.vl within).2.1∧((iC tbs f.vl inn within).2.1=true→(iC tbs f.vl inn within).1=(nM tbs inn f.vl within).1)):=by
 obtain ⟨hk1,hk5,_,_⟩:=tO h
 have hkd:f.vl.kind=f.kind:=rfl
 unfold iC nM
 rw [hkd]
 by_cases h1:f.kind=1
 ·rw [if_pos h1,if_pos h1]
  cases within
  ·exact .inr ⟨rfl,rfl,rfl,fun _=>rfl⟩
  ·exact .inl ⟨by simp,rfl⟩
 ·rw [if_neg h1,if_neg h1]
  by_cases h45:f.kind=4∨f.kind=5
  ·rw [if_pos h45,if_pos (.inr (.inr h45))]
   exact .inl ⟨by simp,rfl⟩
  ·rw [if_neg h45]
   by_cases hw:(iB f.vl.path).1.1 ≠ []∨(iB f.vl.path).1.2.2.1=0
   ·rw [if_pos hw,if_pos (hw.elim .inl fun h=>.inr (.inl h))]
    exact .inl ⟨by simp,rfl⟩
   ·rw [if_neg hw,if_neg (fun h=>h.elim (fun h=>hw (.inl h)) fun h=>h.elim (fun h=>hw (.inr h)) h45)]
    cases cS (iB f.vl.path).1.2.1 (iB f.vl.path).1.2.2.1 (cO (iB f.vl.path).1.2.2.2) inn with
    |none=>exact .inr ⟨rfl,rfl,rfl,fun h=>by cases h⟩
    |some o=>
     simp only
     by_cases h2:f.kind=2
     ·rw [if_pos h2,if_pos h2]
      exact .inr ⟨rfl,rfl,rfl,fun _=>rfl⟩
     ·rw [if_neg h2,if_neg h2]
      have h3:f.kind=3:=by omega
      unfold vG
      by_cases o2:o.kind=2
      ·rw [if_pos o2,if_pos o2]
       exact .inr ⟨rfl,rfl,rfl,fun _=>by rw [hkd,h3]⟩
      ·rw [if_neg o2,if_neg o2]
       by_cases o1:o.kind=1
       ·rw [if_pos o1,if_pos o1]
        exact .inr ⟨rfl,rfl,rfl,fun _=>rfl⟩
       ·rw [if_neg o1,if_neg o1]
        exact .inl ⟨by simp,rfl⟩
theorem zBh (tbs:List Tb) (inn:List MStep) (within:Bool):∀ (l acc:List Fld),(∀ f ∈ l,eF tbs f=0)→
  ((eS tbs inn within l acc).2 ≠ 0∧(iE tbs inn within l acc).2=false)∨((eS tbs inn within l acc).2=0∧(iE tbs inn within l acc).2=true∧(eS tbs inn within l acc).1=(iE tbs inn within l acc).1)
 |[],acc,_=>.inr ⟨rfl,rfl,rfl⟩
 |f::l,acc,h=>by
  unfold eS iE
  rcases zHN tbs inn within (h f (by simp)) with ⟨h1,h2⟩|⟨h1,h2,h3,h4⟩
  ·rw [if_pos h1,if_pos h2]
   exact .inl ⟨h1,rfl⟩
  ·have n2:¬ (nM tbs inn f.vl within).2.2=false:=by rw [h2];simp
   rw [if_neg (by simpa using h1),if_neg n2,← h3]
   have e:(if (iC tbs f.vl inn within).2.1=true then acc ++ [(iC tbs f.vl inn within).1.fld f.el f.pt] else acc)=(if (iC tbs f.vl inn within).2.1=true then acc ++ [(nM tbs inn f.vl within).1.fld f.el f.pt] else acc):=by
    split
    ·rename_i hb;rw [h4 hb]
    ·rfl
   rw [e]
   exact zBh tbs inn within l _ fun x hx=>h x (by simp [hx])
theorem oS {tbs:List Tb} {n:Str}:∀ {l:List MStep} {g:MStep},eE n l=some g→g ∈ l∧g.kind=2∧g.name=n
 |[],_,h=>by cases h
 |s::l,g,h=>by
  unfold eE at h
  split at h
  ·rename_i hs
   cases h
   exact ⟨by simp,hs⟩
  ·obtain ⟨h1,h2⟩:=oS (tbs:=tbs) h
   exact ⟨by simp [h1],h2⟩
theorem zES {n:Str} (h:aR n=true):(47:UInt8) ∉ n:=by
 cases n with
 |nil=>simp
 |cons c s=>
  simp only [aR,Bool.and_eq_true] at h
  intro hm
  have:=List.all_eq_true.1 h.2 _ hm
  revert this
  decide
theorem zKh {tbs:List Tb} {o:Str} (ho:bH o=0) (hne:o ≠ []) {l:List MStep} (hl:∀ s ∈ l,s.Good tbs):(if (fN o).1.length=1 then eE ((fN o).1.headD []) l else none)=eE o l:=by
 have hn:fN o=(aF 47 o,0):=by
  unfold bH at ho
  unfold fN
  split at ho
  ·cases ho
  ·rename_i h2
   rw [if_neg h2,if_neg hne]
   split at ho
   ·cases ho
   ·rename_i h3
    rw [if_pos (by simpa [hne] using h3)]
 rw [hn]
 simp only
 by_cases hs:(47:UInt8) ∈ o
 ·have hlen:(aF 47 o).length ≠ 1:=fun e=>by
   obtain ⟨x,hx⟩:=List.length_eq_one_iff.1 e
   have h1:=vM (c:=47) o
   have h2:=tM (c:=47) (s:=o) (w:=x) (by rw [hx];simp)
   rw [hx,yR] at h1
   rw [h1] at h2
   exact h2 hs
  rw [if_neg hlen]
  cases hg:eE o l with
  |none=>rfl
  |some g=>
   obtain ⟨h1,h2,h3⟩:=oS (tbs:=tbs) hg
   obtain ⟨k,t,fs,n,o',c,ss⟩:=g
   have:=(rY (cQ (hl _ h1)).1).grp h2
   have h3:n=o:=h3
   exact absurd hs (by rw [← h3];exact zES this.2.2.2.1)
 ·rw [iH hs]
  rfl
def zM5 (tbs:List Tb) (s:MStep):Prop:=∀ (tbs':List Tb) (inn:List MStep) (within:Bool),(∀ x ∈ inn,x.Good tbs')→
  ((dB tbs s inn within).2.2 ≠ 0∧(nR tbs s inn within).2=false)∨((dB tbs s inn within).2.2=0∧(nR tbs s inn within).2=true∧(nR tbs s inn within).1=if (dB tbs s inn within).2.1=true then [(dB tbs s inn within).1] else [])
theorem mN {tbs tbs':List Tb} {inn:List MStep} (within:Bool) (hi:∀ x ∈ inn,x.Good tbs'):∀ (l acc:List MStep),(∀ s ∈ l,zM5 tbs s)→
  ((aY tbs l inn within acc).2 ≠ 0∧(aZ tbs l inn within acc).2=false)∨((aY tbs l inn within acc).2=0∧(aZ tbs l inn within acc).2=true∧(aY tbs l inn within acc).1=(aZ tbs l inn within acc).1)
 |[],acc,_=>by rw [mP,xJ];exact .inr ⟨rfl,rfl,rfl⟩
 |s::l,acc,h=>by
  have eP:=pR (tbs:=tbs) (l:=s::l) (i:=0) rfl inn within acc
  have eR:=zAC (tbs:=tbs) (r:=s::l) (i:=0) rfl inn within acc
  rw [List.drop_zero] at eP eR
  rw [eP,eR]
  rcases h s (by simp) tbs' inn within hi with ⟨h1,h2⟩|⟨h1,h2,h3⟩
  ·rw [if_pos h1,if_pos h2]
   exact .inl ⟨h1,rfl⟩
  ·have n2:¬ (nR tbs s inn within).2=false:=by rw [h2];simp
   rw [if_neg (by simpa using h1),if_neg n2,h3]
   have e:(acc++if (dB tbs s inn within).2.1=true then [(dB tbs s inn within).1] else [])=if (dB tbs s inn within).2.1=true then acc ++ [(dB tbs s inn within).1] else acc:=by
    split<;>simp
   rw [e]
   exact mN within hi l _ fun x hx=>h x (by simp [hx])
theorem zAE {tbs:List Tb} (s:MStep):s.Good tbs→zM5 tbs s:=by
 induction s using MStep.ind with
 |h k t fs n o c ss ih=>
  intro hg tbs' inn within hi
  obtain ⟨he,hs⟩:=cQ hg
  have h0:=rY he
  have hk1:=h0.k1
  have hk3:=h0.k3
  rw [rX,zCp]
  by_cases h3:k=3
  ·rw [if_pos h3,if_pos h3]
   exact .inl ⟨by simp,rfl⟩
  ·rw [if_neg h3,if_neg h3]
   by_cases h1:k=1
   ·rw [if_pos h1,if_pos h1]
    rcases zBh tbs inn within fs [] (fun f hf=>((h0.seg h1).2.2.2.2.2.2 f hf).1) with ⟨a,b⟩|⟨a,b,d⟩
    ·rw [if_pos a,if_pos b]
     exact .inl ⟨a,rfl⟩
    ·have n2:¬ (iE tbs inn within fs []).2=false:=by rw [b];simp
     rw [if_neg (by simpa using a),if_neg n2,← d,h1]
     refine .inr ⟨rfl,rfl,?_⟩
     by_cases hz:(eS tbs inn within fs []).1.length=0
     ·rw [if_pos hz];simp [hz]
     ·rw [if_neg hz];simp [hz,zH5]
   ·rw [if_neg h1,if_neg h1]
    have h2:k=2:=by omega
    obtain ⟨_,_,_,_,hgo⟩:=h0.grp h2
    have key:∀ (place:List MStep) (inner:Bool) (ov:Str),(∀ x ∈ place,x.Good tbs')→
      ((aY tbs ss place inner []).2 ≠ 0∧(if (aZ tbs ss place inner []).2=false then (([]:List MStep),false) else (if (aZ tbs ss place inner []).1.length=0 then [] else [wJ n ov (aZ tbs ss place inner []).1],true)).2=false)∨
      ((aY tbs ss place inner []).2=0∧(if (aZ tbs ss place inner []).2=false then (([]:List MStep),false) else (if (aZ tbs ss place inner []).1.length=0 then [] else [wJ n ov (aZ tbs ss place inner []).1],true)).2=true∧
       (if (aZ tbs ss place inner []).2=false then (([]:List MStep),false) else (if (aZ tbs ss place inner []).1.length=0 then [] else [wJ n ov (aZ tbs ss place inner []).1],true)).1=if (!((aY tbs ss place inner []).1.length == 0))=true then [MStep.mk k [] [] n ov zeroM (aY tbs ss place inner []).1] else []):=by
     intro place inner ov hpl
     rcases mN inner hpl ss [] (fun s hm=>ih s hm (hs s hm)) with ⟨a,b⟩|⟨a,b,d⟩
     ·rw [if_pos b]
      exact .inl ⟨a,rfl⟩
     ·have n2:¬ (aZ tbs ss place inner []).2=false:=by rw [b];simp
      rw [if_neg n2,← d,h2]
      refine .inr ⟨a,rfl,?_⟩
      by_cases hz:(aY tbs ss place inner []).1.length=0
      ·simp [hz]
      ·simp [hz,wJ]
    by_cases ho:o = []
    ·rw [if_pos ho,if_pos ho]
     exact key inn within [] hi
    ·rw [if_neg ho,if_neg ho,zKh hgo ho hi]
     cases hgr:eE o inn with
     |none=>exact .inl ⟨by simp,rfl⟩
     |some g=>
      refine key g.kids true g.over ?_
      obtain ⟨m1,_,_⟩:=oS (tbs:=tbs) hgr
      obtain ⟨k',t',fs',n',o',c',ss'⟩:=g
      exact (cQ (hi _ m1)).2
def MStep.key (s:MStep):Str:=s.tag++47::s.name
def dL:List Str→List MStep→Bool
 |_,[]=>true
 |seen,.mk k t _ n o _ ss::l => !(decide (k=3) || seen.contains (t++47::n) || (decide (k=2) && (o == [] || !dL [] ss))) && dL (seen ++ [t++47::n]) l
theorem vC (seen:List Str) (k:Int) (t:Str) (fs:List Fld) (n o:Str) (c:Cond) (ss l:List MStep):dL seen (.mk k t fs n o c ss::l)=(!(decide (k=3) || seen.contains (t++47::n) || (decide (k=2) && (o == [] || !dL [] ss))) && dL (seen ++ [t++47::n]) l):=by rw [dL]
theorem yA (seen:List Str):dL seen []=true:=by rw [dL]
def sC (a b:MStep):Bool:=a.kind == b.kind && a.tag == b.tag && a.name == b.name
def cV:List MStep→List MStep→Bool
 |_,[]=>true
 |pre,.mk k t fs n o c ss::l => !(decide (k=3) || (decide (k=2) && o == [])) && (!(pre.any fun x=>sC x (.mk k t fs n o c ss)) && (cV [] ss && cV (pre ++ [.mk k t fs n o c ss]) l))
theorem vA (pre:List MStep) (k:Int) (t:Str) (fs:List Fld) (n o:Str) (c:Cond) (ss l:List MStep):cV pre (.mk k t fs n o c ss::l)=(!(decide (k=3) || (decide (k=2) && o == [])) && (!(pre.any fun x=>sC x (.mk k t fs n o c ss)) && (cV [] ss && cV (pre ++ [.mk k t fs n o c ss]) l))):=by rw [cV]
theorem qY (pre:List MStep):cV pre []=true:=by rw [cV]
theorem zAA {t:Str} (h:cA t=true):(47:UInt8) ∉ t∧t ≠ []:=by
 unfold cA at h
 simp only [Bool.and_eq_true,decide_eq_true_eq] at h
 refine ⟨fun hm => ?_,fun e=>by subst e;simp at h⟩
 have:=List.all_eq_true.1 h.2 _ hm
 revert this
 decide
theorem zLD {tbs:List Tb} {a b:MStep} (ha:a.Good tbs) (hb:b.Good tbs) (ka:a.kind ≠ 3) (kb:b.kind ≠ 3):a.key=b.key↔sC a b=true:=by
 obtain ⟨k,t,fs,n,o,c,ss⟩:=a
 obtain ⟨k',t',fs',n',o',c',ss'⟩:=b
 have h:=rY (cQ ha).1
 have h':=rY (cQ hb).1
 have hk1:=h.k1
 have hk3:=h.k3
 have hk1':=h'.k1
 have hk3':=h'.k3
 simp only [MStep.kind] at ka kb
 simp only [MStep.key,sC,MStep.kind,MStep.tag,MStep.name,Bool.and_eq_true,beq_iff_eq]
 constructor
 ·intro e
  by_cases h1:k=1
  ·obtain ⟨rfl,_,_,_,ht,_⟩:=h.seg h1
   obtain ⟨hs,hne⟩:=zAA ht
   by_cases h1':k'=1
   ·obtain ⟨rfl,_⟩:=h'.seg h1'
    exact ⟨⟨by omega,by simpa using e⟩,rfl⟩
   ·obtain ⟨rfl,_⟩:=h'.grp (by omega)
    cases t with
    |nil=>exact absurd rfl hne
    |cons x t=>
     simp only [List.cons_append,List.nil_append,List.cons.injEq] at e
     exact absurd (by simp [e.1]) hs
  ·obtain ⟨rfl,_⟩:=h.grp (by omega)
   by_cases h1':k'=1
   ·obtain ⟨rfl,_,_,_,ht,_⟩:=h'.seg h1'
    obtain ⟨hs,hne⟩:=zAA ht
    cases t' with
    |nil=>exact absurd rfl hne
    |cons x t=>
     simp only [List.cons_append,List.nil_append,List.cons.injEq] at e
     exact absurd (by simp [← e.1]) hs
   ·obtain ⟨rfl,_⟩:=h'.grp (by omega)
    exact ⟨⟨by omega,rfl⟩,by simpa using e⟩
 ·rintro ⟨⟨_,rfl⟩,rfl⟩
  rfl
theorem zAK {tbs:List Tb} {s:MStep} (hs:s.Good tbs) (k3:s.kind ≠ 3):∀ (pre:List MStep),(∀ x ∈ pre,x.Good tbs∧x.kind ≠ 3)→(pre.map MStep.key).contains s.key=pre.any fun x=>sC x s
 |[],_=>rfl
 |p::pre,h=>by
  obtain ⟨h1,h2⟩:=h p (by simp)
  rw [List.map_cons,List.contains_cons,List.any_cons,zAK hs k3 pre fun x hx=>h x (by simp [hx])]
  congr 1
  rw [Bool.eq_iff_iff,beq_iff_eq,← zLD h1 hs h2 k3]
  exact ⟨Eq.symm,Eq.symm⟩
theorem qX {tbs:List Tb}:∀ (l pre:List MStep),(∀ s ∈ l,s.Good tbs∧(∀ k t fs n o c ss,s=.mk k t fs n o c ss→dL [] ss=cV [] ss))→(∀ x ∈ pre,x.Good tbs∧x.kind ≠ 3)→dL (pre.map MStep.key) l=cV pre l
 |[],pre,_,_=>by rw [yA,qY]
 |.mk k t fs n o c ss::l,pre,h,hp=>by
  obtain ⟨hg,hss⟩:=h _ (List.mem_cons_self ..)
  have hss:=hss _ _ _ _ _ _ _ rfl
  have h0:=rY (cQ hg).1
  have hk1:=h0.k1
  have hk3:=h0.k3
  rw [vC,vA]
  by_cases h3:k=3
  ·simp [h3]
  ·have hk:(MStep.mk k t fs n o c ss).kind ≠ 3:=h3
   have hseen:=zAK hg hk pre hp
   have hkey:(MStep.mk k t fs n o c ss).key=t++47::n:=rfl
   rw [hkey] at hseen
   have hrec:=qX l (pre ++ [.mk k t fs n o c ss]) (fun s hs=>h s (by simp [hs])) fun x hx=>by
    rcases List.mem_append.1 hx with hx|hx
    ·exact hp x hx
    ·simp only [List.mem_singleton] at hx
     subst hx
     exact ⟨hg,hk⟩
   rw [List.map_append,List.map_cons,List.map_nil,hkey] at hrec
   rw [hseen,hrec,hss]
   by_cases h1:k=1
   ·have hns:ss = []:=List.eq_nil_of_length_eq_zero (h0.seg h1).2.2.2.1
    subst hns
    rw [qY,h1]
    simp
   ·have h2:k=2:=by omega
    rw [h2]
    cases (pre.any fun x=>sC x (MStep.mk 2 t fs n o c ss))<;>cases cV [] ss<;>cases (o == [])<;>simp
theorem zEE {tbs:List Tb} (s:MStep):s.Good tbs→dL [] s.kids=cV [] s.kids:=by
 induction s using MStep.ind with
 |h k t fs n o c ss ih=>
  intro hg
  obtain ⟨_,hs⟩:=cQ hg
  exact qX (tbs:=tbs) ss [] (fun s hm=>⟨hs s hm,fun k t fs n o c ss' e=>by subst e;exact ih _ hm (hs _ hm)⟩) fun x hx=>by cases hx
theorem zED {tbs:List Tb} (l:List MStep) (h:∀ s ∈ l,s.Good tbs):dL [] l=cV [] l:=
 qX (tbs:=tbs) l [] (fun s hm=>⟨h s hm,fun k t fs n o c ss' e=>by subst e;exact zEE _ (h _ hm)⟩) fun x hx=>by cases hx
def mF (n:Str) (l:List Tb):Nat→Nat
 |0=>0
 |k+1=>match l[k]? with
  |some t=>if Op.bytesLess n t.name=true then mF n l k else k+1
  |none=>k+1
def wI (t:Tb) (l:List Tb):List Tb:=l.take (mF t.name l l.length) ++ [t]++l.drop (mF t.name l l.length)
def jG (out:List Tb):List Tb→Option (List Tb)
 |[]=>some out
 |t::l=>match cZ t.name out with
  |some o=>if o.rows=t.rows then jG out l else none
  |none=>jG (wI t out) l
def cI (t:Tb):List Tb→List Tb
 |[] => [t]
 |o::l=>if t.name=o.name then t::l else o::cI t l
def jH (all:List Tb):List Tb→Option (List Tb)
 |[]=>some all
 |t::l=>match cZ t.name all with
  |some o=>if o.rows=t.rows then jH (cI t all) l else none
  |none=>jH (cI t all) l
theorem zFX (n:Str) (l:List Tb):∀ k,mF n l k≤k
 |0=>Nat.le_refl _
 |k+1=>by
  unfold mF
  have:=zFX n l k
  split
  ·split<;>omega
  ·omega
theorem zFY (n:Str) (l:List Tb):∀ (k j:Nat) (t:Tb),mF n l k≤j→j < k→l[j]?=some t→Op.bytesLess n t.name=true
 |0,j,t,_,h,_=>by omega
 |k+1,j,t,h1,h2,h3=>by
  unfold mF at h1
  split at h1
  ·rename_i o ho
   split at h1
   ·rename_i hb
    by_cases hj:j=k
    ·subst hj;rw [ho] at h3;cases h3;exact hb
    ·exact zFY n l k j t h1 (by omega) h3
   ·omega
  ·omega
theorem zFW (n:Str) (l:List Tb):∀ (k:Nat),k≤l.length→mF n l k=0∨∃ t,l[mF n l k - 1]?=some t∧Op.bytesLess n t.name=false
 |0,_=>.inl rfl
 |k+1,hk=>by
  have hl:l[k]?=some l[k]:=List.getElem?_eq_getElem (by omega)
  unfold mF
  rw [hl]
  simp only
  split
  ·exact zFW n l k (by omega)
  ·rename_i hb
   exact .inr ⟨l[k],by simp,by simpa using hb⟩
theorem dN {n:Str}:∀ {l:List Tb} {t:Tb},cZ n l=some t→t ∈ l∧t.name=n
 |[],_,h=>by cases h
 |o::l,t,h=>by
  unfold cZ at h
  split at h
  ·rename_i hn;cases h;exact ⟨by simp,hn⟩
  ·obtain ⟨h1,h2⟩:=dN h
   exact ⟨by simp [h1],h2⟩
theorem gH {n:Str}:∀ {l:List Tb},cZ n l=none↔∀ t ∈ l,t.name ≠ n
 |[]=>by simp [cZ]
 |o::l=>by
  unfold cZ
  split
  ·rename_i hn;simp [hn]
  ·rename_i hn
   rw [gH (l:=l)]
   simp [hn]
theorem zAU {l:List Tb} (h:bU Tb.name l):l.Pairwise fun a b=>a.name ≠ b.name:=
 List.Pairwise.imp (fun {a b} hab e=>by rw [e,cH] at hab;cases hab) h
theorem rW {l:List Tb} (h:bU Tb.name l) {t:Tb} (ht:t ∈ l):cZ t.name l=some t:=by
 cases hc:cZ t.name l with
 |none=>exact absurd rfl (gH.1 hc t ht)
 |some o=>
  obtain ⟨h1,h2⟩:=dN hc
  obtain ⟨i,hi,rfl⟩:=List.mem_iff_getElem.1 h1
  obtain ⟨j,hj,rfl⟩:=List.mem_iff_getElem.1 ht
  have hp:=List.pairwise_iff_getElem.1 (zAU h)
  rcases Nat.lt_trichotomy i j with hij|rfl|hij
  ·exact absurd h2 (hp i j hi hj hij)
  ·rfl
  ·exact absurd h2.symm (hp j i hj hi hij)
theorem vO {t:Tb} {l:List Tb} (h:bU Tb.name l) (hn:cZ t.name l=none):bU Tb.name (wI t l):=by
 have hne:=gH.1 hn
 have hle:=zFX t.name l l.length
 unfold wI bU
 rw [List.append_assoc,List.pairwise_append]
 have hlow:∀ a ∈ l.take (mF t.name l l.length),Op.bytesLess a.name t.name=true:=by
  intro a ha
  obtain ⟨i,hi,rfl⟩:=List.mem_take_iff_getElem.1 ha
  have hi':i < mF t.name l l.length:=by omega
  rcases zFW t.name l l.length (Nat.le_refl _) with h0|⟨o,ho,hb⟩
  ·omega
  ·have hot:o.name ≠ t.name:=hne o (aK ho)
   have hlt:Op.bytesLess o.name t.name=true:=by
    rcases kJ o.name t.name with h|h|h
    ·exact h
    ·exact absurd h hot
    ·rw [hb] at h;cases h
   by_cases hik:i=mF t.name l l.length - 1
   ·subst hik
    rw [List.getElem?_eq_getElem (by omega)] at ho
    cases ho
    exact hlt
   ·exact eU (lY h (List.getElem?_eq_getElem (by omega)) ho (by omega)) hlt
 have hhigh:∀ b ∈ l.drop (mF t.name l l.length),Op.bytesLess t.name b.name=true:=by
  intro b hb
  obtain ⟨i,hi,rfl⟩:=List.mem_drop_iff_getElem.1 hb
  exact zFY t.name l l.length _ _ (Nat.le_add_right _ _) (by omega) (List.getElem?_eq_getElem (by omega))
 refine ⟨List.Pairwise.sublist (List.take_sublist _ _) h,?_,?_⟩
 ·rw [List.singleton_append,List.pairwise_cons]
  exact ⟨hhigh,List.Pairwise.sublist (List.drop_sublist _ _) h⟩
 ·intro a ha b hb
  rcases List.mem_append.1 hb with hb|hb
  ·simp only [List.mem_singleton] at hb
   subst hb
   exact hlow a ha
  ·exact eU (hlow a ha) (hhigh b hb)
theorem sX {t x:Tb} {l:List Tb}:x ∈ wI t l↔x=t∨x ∈ l:=by
 unfold wI
 rw [List.append_assoc,List.mem_append,List.mem_append,List.mem_singleton]
 constructor
 ·rintro (h|h|h)
  ·exact .inr (List.mem_of_mem_take h)
  ·exact .inl h
  ·exact .inr (List.mem_of_mem_drop h)
 ·rintro (h|h)
  ·exact .inr (.inl h)
  ·rw [← List.take_append_drop (mF t.name l l.length) l] at h
   rcases List.mem_append.1 h with h|h
   ·exact .inl h
   ·exact .inr (.inr h)
theorem xH (t:Tb) (n:Str):∀ l:List Tb,cZ n (cI t l)=if t.name=n then some t else cZ n l
 |[]=>by simp [cI,cZ]
 |o::l=>by
  unfold cI
  by_cases h:t.name=o.name
  ·rw [if_pos h]
   unfold cZ
   by_cases hn:t.name=n
   ·rw [if_pos hn,if_pos hn]
   ·rw [if_neg hn,if_neg hn,if_neg (by rw [← h];exact hn)]
  ·rw [if_neg h]
   unfold cZ
   rw [xH t n l]
   by_cases ho:o.name=n
   ·rw [if_pos ho,if_pos ho,if_neg (by rw [← ho];exact h)]
   ·rw [if_neg ho,if_neg ho]
theorem zHV {t:Tb} {l:List Tb} (h:bU Tb.name l) (hn:cZ t.name l=none) (n:Str):cZ n (wI t l)=if t.name=n then some t else cZ n l:=by
 have hr:=vO h hn
 by_cases e:t.name=n
 ·rw [if_pos e,← e]
  exact rW hr (sX.2 (.inl rfl))
 ·rw [if_neg e]
  cases hc:cZ n l with
  |some o=>
   obtain ⟨h1,h2⟩:=dN hc
   rw [← h2]
   exact rW hr (sX.2 (.inr h1))
  |none=>
   refine gH.2 fun x hx => ?_
   rcases sX.1 hx with rfl|hx
   ·exact e
   ·exact gH.1 hc x hx
theorem zNa {o t:Tb} (h1:o.name=t.name) (h2:o.rows=t.rows):o=t:=by
 cases o;cases t;simp only at h1 h2;rw [h1,h2]
theorem uI:∀ (b out all:List Tb),bU Tb.name out→(∀ n,cZ n out=cZ n all)→
  (jG out b=none∧jH all b=none)∨∃ o p,jG out b=some o∧jH all b=some p∧bU Tb.name o∧∀ n,cZ n o=cZ n p
 |[],out,all,hr,he=>.inr ⟨out,all,rfl,rfl,hr,he⟩
 |t::b,out,all,hr,he=>by
  unfold jG jH
  rw [← he]
  cases hc:cZ t.name out with
  |some o=>
   simp only
   by_cases hrow:o.rows=t.rows
   ·rw [if_pos hrow,if_pos hrow]
    have ho:o=t:=zNa (dN hc).2 hrow
    subst ho
    refine uI b out (cI o all) hr fun n => ?_
    rw [xH,← he]
    split
    ·rename_i h;rw [← h];exact hc
    ·rfl
   ·rw [if_neg hrow,if_neg hrow]
    exact .inl ⟨rfl,rfl⟩
  |none=>
   simp only
   refine uI b (wI t out) (cI t all) (vO hr hc) fun n => ?_
   rw [zHV hr hc,xH,he]
theorem iW (t:Tb):∀ l:List Tb,(l.map Tb.name).Nodup→((cI t l).map Tb.name).Nodup∧∀ n,n ∈ (cI t l).map Tb.name↔n=t.name∨n ∈ l.map Tb.name
 |[],_=>by simp [cI]
 |o::l,h=>by
  rw [List.map_cons,List.nodup_cons] at h
  obtain ⟨h1,h2⟩:=iW t l h.2
  unfold cI
  by_cases e:t.name=o.name
  ·rw [if_pos e,List.map_cons,List.nodup_cons,e]
   exact ⟨h,fun n=>by simp⟩
  ·rw [if_neg e,List.map_cons,List.nodup_cons]
   refine ⟨⟨fun hm => ?_,h1⟩,fun n => ?_⟩
   ·rcases (h2 _).1 hm with hm|hm
    ·exact e hm.symm
    ·exact h.1 hm
   ·rw [List.mem_cons,h2,List.map_cons,List.mem_cons]
    constructor
    ·rintro (h|h|h)
     ·exact .inr (.inl h)
     ·exact .inl h
     ·exact .inr (.inr h)
    ·rintro (h|h|h)
     ·exact .inr (.inl h)
     ·exact .inl h
     ·exact .inr (.inr h)
theorem lZ (t:Tb):∀ l:List Tb,(cI t l).length≤l.length+1
 |[]=>by simp [cI]
 |o::l=>by
  unfold cI
  have:=lZ t l
  split<;>simp<;>omega
theorem qV {α:Type} {key:α→Str}:∀ {l m:List α},bU key l→bU key m→(∀ x,x ∈ l↔x ∈ m)→l=m
 |[],[],_,_,_=>rfl
 |[],b::m,_,_,h=>by simpa using (h b).2 (by simp)
 |a::l,[],_,_,h=>by simpa using (h a).1 (by simp)
 |a::l,b::m,hl,hm,h=>by
  have hl':=List.pairwise_cons.1 hl
  have hm':=List.pairwise_cons.1 hm
  have hab:a=b:=by
   rcases List.mem_cons.1 ((h a).1 (by simp)) with h1|h1
   ·exact h1
   ·rcases List.mem_cons.1 ((h b).2 (by simp)) with h2|h2
    ·exact h2.symm
    ·have k1:=hl'.1 b h2
     have k2:=hm'.1 a h1
     have:=eU k1 k2
     rw [cH] at this
     cases this
  subst hab
  congr 1
  refine qV hl'.2 hm'.2 fun x => ?_
  have hx:=h x
  rw [List.mem_cons,List.mem_cons] at hx
  constructor
  ·intro hxl
   rcases hx.1 (.inr hxl) with rfl|hxm
   ·have:=hl'.1 x hxl
    rw [cH] at this
    cases this
   ·exact hxm
  ·intro hxm
   rcases hx.2 (.inr hxm) with rfl|hxl
   ·have:=hm'.1 x hxm
    rw [cH] at this
    cases this
   ·exact hxl
def lR (all:List Tb) (ks:List Str):List Tb:=ks.filterMap fun k=>cZ k all
theorem zHU {o all:List Tb} (hr:bU Tb.name o) (he:∀ n,cZ n o=cZ n all) {ks:List Str} (hk:bU id ks) (hm:∀ n,n ∈ ks↔n ∈ all.map Tb.name):lR all ks=o:=by
 have hks:ks=o.map Tb.name:=by
  have ho:bU id (o.map Tb.name):=by
   unfold bU at *
   rw [List.pairwise_map]
   exact hr
  refine qV hk ho fun n => ?_
  rw [hm]
  constructor
  ·intro h
   obtain ⟨t,ht,rfl⟩:=List.mem_map.1 h
   cases hc:cZ t.name o with
   |none=>rw [he] at hc;exact absurd rfl (gH.1 hc t ht)
   |some x=>
    obtain ⟨h1,h2⟩:=dN hc
    exact List.mem_map.2 ⟨x,h1,h2⟩
  ·intro h
   obtain ⟨t,ht,rfl⟩:=List.mem_map.1 h
   have hc:=rW hr ht
   rw [he] at hc
   obtain ⟨h1,_⟩:=dN hc
   exact List.mem_map.2 ⟨t,h1,rfl⟩
 rw [hks]
 unfold lR
 have key:∀ l:List Tb,(∀ t ∈ l,cZ t.name all=some t)→(l.map Tb.name).filterMap (fun k=>cZ k all)=l:=by
  intro l
  induction l with
  |nil=>intro _;rfl
  |cons a l ih=>
   intro h
   rw [List.map_cons,List.filterMap_cons,h a (by simp)]
   simp only
   rw [ih fun t ht=>h t (by simp [ht])]
 exact key o fun t ht=>by rw [← he];exact rW hr ht
def zMp:Mp:=⟨[],[],[]⟩
def dK:List Tb→List Tb→List Tb
 |all,[]=>all
 |all,t::l=>dK (cI t all) l
theorem zM3:∀ a b:List UInt8,Op.bytesLess a b=true↔a < b
 |[],[]=>by simp [uK]
 |[],_::_=>by simp [Op.bytesLess]
 |_::_,[]=>by simp [uK]
 |x::a,y::b=>by
  rw [qA,List.cons_lt_cons_iff,zM3 a b]
  exact Iff.rfl
theorem zFO {a b:List UInt8}:decide (a≤b)=true↔Op.bytesLess b a=false:=by
 rw [decide_eq_true_eq,← List.not_lt,← zM3,Bool.not_eq_true]
theorem lG {l:List Str} (h:l.Nodup):bU id (l.mergeSort fun x y=>decide (x≤y)):=by
 have hs:=List.pairwise_mergeSort (le:=fun x y:Str=>decide (x≤y)) (fun a b c hab hbc=>by
  rw [zFO] at *
  rw [Bool.eq_false_iff]
  intro hca
  rcases kJ a b with h1|rfl|h1
  ·rw [eU hca h1] at hbc;cases hbc
  ·rw [hca] at hbc;cases hbc
  ·rw [h1] at hab;cases hab) (fun a b=>by
  rw [Bool.or_eq_true,zFO,zFO]
  rcases kJ a b with h1|rfl|h1
  ·left
   rw [Bool.eq_false_iff]
   intro h2
   have:=eU h1 h2
   rw [cH] at this
   cases this
  ·left;exact cH a
  ·right
   rw [Bool.eq_false_iff]
   intro h2
   have:=eU h1 h2
   rw [cH] at this
   cases this) l
 have hn:(l.mergeSort fun x y=>decide (x≤y)).Nodup:=(List.mergeSort_perm l _).nodup_iff.2 h
 unfold bU
 refine List.Pairwise.imp₂ ?_ hs hn
 intro a b hab hne
 rw [zFO] at hab
 rcases kJ a b with h1|h1|h1
 ·exact h1
 ·exact absurd h1 hne
 ·rw [h1] at hab;cases hab
theorem zAG {l m:List Str} (h:l.Nodup) (p:m.Perm l):(m.mergeSort fun x y=>decide (x≤y))=l.mergeSort fun x y=>decide (x≤y):=
 qV (lG (p.nodup_iff.2 h)) (lG h) fun x=>by
  rw [(List.mergeSort_perm m _).mem_iff,(List.mergeSort_perm l _).mem_iff,p.mem_iff]
def oL (all:List Tb):List Str:=(all.map Tb.name).mergeSort fun x y=>decide (x≤y)
theorem sL:∀ (l all:List Tb),(all.map Tb.name).Nodup→((dK all l).map Tb.name).Nodup
 |[],_,h=>h
 |t::l,all,h=>sL l _ (iW t all h).1
theorem xV:∀ (l all:List Tb),(dK all l).length≤all.length+l.length
 |[],_=>Nat.le_refl _
 |t::l,all=>by
  have h1:=xV l (cI t all)
  have h2:=lZ t all
  unfold dK
  simp only [List.length_cons]
  omega
theorem pJ:∀ (l all p:List Tb),(all.map Tb.name).Nodup→jH all l=some p→(p.map Tb.name).Nodup∧p.length≤all.length+l.length
 |[],all,p,h,e=>by
  cases e
  exact ⟨h,Nat.le_refl _⟩
 |t::l,all,p,h,e=>by
  have hn:=(iW t all h).1
  have hl:=lZ t all
  unfold jH at e
  simp only [List.length_cons]
  split at e
  ·split at e
   ·obtain ⟨h1,h2⟩:=pJ l _ p hn e
    exact ⟨h1,by omega⟩
   ·cases e
  ·obtain ⟨h1,h2⟩:=pJ l _ p hn e
   exact ⟨h1,by omega⟩
theorem zA0 {t:Tb}:∀ {l:List Tb},cZ t.name l=none→cI t l=l ++ [t]
 |[],_=>rfl
 |o::l,h=>by
  unfold cZ at h
  split at h
  ·cases h
  ·rename_i hn
   unfold cI
   rw [if_neg fun e=>hn e.symm,zA0 h,List.cons_append]
theorem xW:∀ (l all:List Tb),bU Tb.name (all++l)→dK all l=all++l
 |[],all,_=>by simp [dK]
 |t::l,all,h=>by
  have h1:cZ t.name all=none:=gH.2 fun x hx e=>by
   have:=(List.pairwise_append.1 h).2.2 x hx t (by simp)
   rw [e,cH] at this
   cases this
  unfold dK
  rw [zA0 h1,xW l _ (by simpa using h)]
  simp
theorem mC {t x:Tb}:∀ {l:List Tb},x ∈ cI t l→x=t∨x ∈ l
 |[],h=>by simpa [cI] using h
 |o::l,h=>by
  unfold cI at h
  split at h
  ·rcases List.mem_cons.1 h with h|h
   ·exact .inl h
   ·exact .inr (by simp [h])
  ·rcases List.mem_cons.1 h with h|h
   ·exact .inr (by simp [h])
   ·rcases mC h with h|h
    ·exact .inl h
    ·exact .inr (by simp [h])
def dI (a b:List Tb):List Tb × Int:=match jH (dK [] a) b with
 |none=>([],12)
 |some all=>(lR all (oL all),0)
def fA (a b:List Tb):List Tb × Bool:=match jG a b with
 |none=>([],false)
 |some o=>(o,true)
theorem uR {a b:List Tb} (ha:bU Tb.name a):(dI a b=([],12)∧fA a b=([],false))∨∃ o,dI a b=(o,0)∧fA a b=(o,true):=by
 have hp:=xW a [] (by simpa using ha)
 rw [List.nil_append] at hp
 unfold dI fA
 rw [hp]
 rcases uI b a a ha fun _=>rfl with ⟨h1,h2⟩|⟨o,p,h1,h2,h3,h4⟩
 ·rw [h1,h2]
  exact .inl ⟨rfl,rfl⟩
 ·rw [h1,h2]
  refine .inr ⟨o,?_,rfl⟩
  simp only [oL]
  have hn:(a.map Tb.name).Nodup:=by
   have:=zAU ha
   unfold List.Nodup
   rw [List.pairwise_map]
   exact this
  obtain ⟨k1,_⟩:=pJ b a p hn h2
  rw [zHU h3 h4 (lG k1) fun n=>(List.mergeSort_perm _ _).mem_iff]
def nF (a b:Mp):Mp × Int:=
 if a.err ≠ 0 then (zMp,a.err) else if b.err ≠ 0 then (zMp,b.err) else if dL [] a.steps=false then (zMp,11)
 else if (aY b.tables b.steps a.steps false []).2 ≠ 0 then (zMp,(aY b.tables b.steps a.steps false []).2)
 else if (dI a.tables b.tables).2 ≠ 0 then (zMp,(dI a.tables b.tables).2)
 else if (Mp.mk b.name (dI a.tables b.tables).1 (aY b.tables b.steps a.steps false []).1).err ≠ 0 then (zMp,(Mp.mk b.name (dI a.tables b.tables).1 (aY b.tables b.steps a.steps false []).1).err)
 else (Mp.mk b.name (dI a.tables b.tables).1 (aY b.tables b.steps a.steps false []).1,0)
def zAy (a b:Mp):Mp × Int:=
 if a.err ≠ 0 then (zMp,a.err) else if b.err ≠ 0 then (zMp,b.err) else if cV [] a.steps=false then (zMp,11)
 else if (aZ b.tables b.steps a.steps false []).2=false then (zMp,11)
 else if (fA a.tables b.tables).2=false then (zMp,12)
 else if (Mp.mk b.name (fA a.tables b.tables).1 (aZ b.tables b.steps a.steps false []).1).err ≠ 0 then (zMp,(Mp.mk b.name (fA a.tables b.tables).1 (aZ b.tables b.steps a.steps false []).1).err)
 else (Mp.mk b.name (fA a.tables b.tables).1 (aZ b.tables b.steps a.steps false []).1,0)
theorem zKU (tbs:List Tb) (v:MVal) (inn:List MStep) (w:Bool):(iC tbs v inn w).2.2=0∨(iC tbs v inn w).2.2=11:=by
 unfold iC vG
 repeat' split
 all_goals first|exact .inl rfl|exact .inr rfl
theorem zDI (tbs:List Tb) (inn:List MStep) (w:Bool):∀ l acc:List Fld,(eS tbs inn w l acc).2=0∨(eS tbs inn w l acc).2=11
 |[],_=>.inl rfl
 |f::l,acc=>by
  unfold eS
  split
  ·exact zKU ..
  ·exact zDI tbs inn w l _
theorem pQ {tbs:List Tb}:∀ l:List MStep,(∀ s ∈ l,∀ inn w,(dB tbs s inn w).2.2=0∨(dB tbs s inn w).2.2=11)→∀ (inn:List MStep) (w:Bool) (acc:List MStep),(aY tbs l inn w acc).2=0∨(aY tbs l inn w acc).2=11
 |[],_,_,_,_=>by rw [mP];exact .inl rfl
 |s::l,h,inn,w,acc=>by
  have e:=pR (tbs:=tbs) (l:=s::l) (i:=0) rfl inn w acc
  rw [List.drop_zero] at e
  rw [e]
  split
  ·exact h s (by simp) inn w
  ·exact pQ l (fun x hx=>h x (by simp [hx])) _ _ _
theorem zHY (tbs:List Tb) (s:MStep):∀ (inn:List MStep) (w:Bool),(dB tbs s inn w).2.2=0∨(dB tbs s inn w).2.2=11:=by
 induction s using MStep.ind with
 |h k t fs n o c ss ih=>
  intro inn w
  rw [rX]
  split
  ·exact .inr rfl
  ·split
   ·split
    ·exact zDI ..
    ·exact .inl rfl
   ·split
    ·exact pQ ss ih ..
    ·split
     ·exact .inr rfl
     ·exact pQ ss ih ..
theorem zGw (a b:Mp):nF a b=zAy a b:=by
 unfold nF zAy
 by_cases ha:a.err=0
 ·have na:¬ a.err ≠ 0:=fun h=>h ha
  rw [if_neg na,if_neg na]
  by_cases hb:b.err=0
  ·have nb:¬ b.err ≠ 0:=fun h=>h hb
   rw [if_neg nb,if_neg nb,zED a.steps (fS ha)]
   split
   ·rfl
   ·rcases mN (tbs:=b.tables) (tbs':=a.tables) (inn:=a.steps) false (fS ha) b.steps [] (fun s hs=>zAE s (fS hb s hs)) with ⟨h1,h2⟩|⟨h1,h2,h3⟩
    ·rw [if_pos h1,if_pos h2]
     rcases pQ b.steps (fun s _=>zHY b.tables s) a.steps false [] with h|h
     ·exact absurd h h1
     ·rw [h]
    ·have n1:¬ (aY b.tables b.steps a.steps false []).2 ≠ 0:=fun h=>h h1
     have n2:¬ (aZ b.tables b.steps a.steps false []).2=false:=by rw [h2];simp
     rw [if_neg n1,if_neg n2,← h3]
     rcases uR (b:=b.tables) (dO (dH ha)).2.1 with ⟨t1,t2⟩|⟨o,t1,t2⟩
     ·rw [t1,t2];rfl
     ·rw [t1,t2];rfl
  ·rw [if_pos hb,if_pos hb]
 ·rw [if_pos ha,if_pos ha]
def jI (s:Str):Prop:=s.length≤9223372036854775807
structure Fld.Txt (f:Fld):Prop where
 text:jI f.text
 path:jI f.path
 table:jI f.table
structure MVal.Txt (f:MVal):Prop where
 text:jI f.text
 path:jI f.path
 table:jI f.table
structure Tb.Txt (t:Tb):Prop where
 name:jI t.name
 rows:∀ r ∈ t.rows,jI r.1∧jI r.2
inductive MStep.Txt:MStep→Prop where
 |mk {k:Int} {t:Str} {fs:List Fld} {n o:Str} {c:Cond} {ss:List MStep} (ht:jI t) (hf:∀ f ∈ fs,f.Txt) (hn:jI n) (ho:jI o) (hc:c.Txt) (hs:∀ s ∈ ss,s.Txt):(MStep.mk k t fs n o c ss).Txt
structure Mp.Txt (m:Mp):Prop where
 name:jI m.name
 tables:∀ t ∈ m.tables,t.Txt
 steps:∀ s ∈ m.steps,s.Txt
theorem iM:jI []:=by unfold jI;simp
theorem wY:zeroM.Txt:=.mk (by simp) (by simp) (by simp)
theorem zAS {s v:Str}:∀ {l:List (Str × Str)},dZ s l=some v→∃ r ∈ l,r.2=v
 |[],h=>by cases h
 |r::l,h=>by
  unfold dZ at h
  split at h
  ·cases h;exact ⟨r,by simp,rfl⟩
  ·obtain ⟨x,h1,h2⟩:=zAS h
   exact ⟨x,by simp [h1],h2⟩
theorem zBj {e p:Int} {v:MVal}:∀ {l:List Fld},kW e p l=some v→∃ f ∈ l,f.vl=v
 |[],h=>by cases h
 |f::l,h=>by
  unfold kW at h
  split at h
  ·cases h;exact ⟨f,by simp,rfl⟩
  ·obtain ⟨x,h1,h2⟩:=zBj h
   exact ⟨x,by simp [h1],h2⟩
theorem tP {t:Str} {e p:Int} {v:MVal}:∀ {l:List MStep},cS t e p l=some v→∃ s ∈ l,∃ f ∈ s.flds,f.vl=v
 |[],h=>by cases h
 |s::l,h=>by
  unfold cS at h
  split at h
  ·split at h
   ·rename_i u hu
    cases h
    obtain ⟨f,h1,h2⟩:=zBj hu
    exact ⟨s,by simp,f,h1,h2⟩
   ·obtain ⟨x,h1,h2⟩:=tP h
    exact ⟨x,by simp [h1],h2⟩
  ·obtain ⟨x,h1,h2⟩:=tP h
   exact ⟨x,by simp [h1],h2⟩
theorem zDH {s:MStep} (h:s.Txt):(∀ f ∈ s.flds,f.Txt)∧jI s.over∧∀ x ∈ s.kids,x.Txt:=by
 cases h with|mk ht hf hn ho hc hs=>exact ⟨hf,ho,hs⟩
theorem zEk {tbs:List Tb} (h:∀ t ∈ tbs,t.Txt) (n:Str):∀ r ∈ jU tbs n,jI r.1∧jI r.2:=by
 unfold jU
 split
 ·rename_i t ht
  exact (h t (dN ht).1).rows
 ·intro r hr;cases hr
theorem zHP {tbs:List Tb} (ht:∀ t ∈ tbs,t.Txt) {v:MVal} (hv:v.Txt) {inn:List MStep} (hi:∀ s ∈ inn,s.Txt) (w:Bool):(iC tbs v inn w).1.Txt:=by
 unfold iC
 split
 ·split<;>exact hv
 ·split
  ·exact hv
  ·split
   ·exact hv
   ·split
    ·exact hv
    ·rename_i o ho
     have hot:o.Txt:=by
      obtain ⟨s,h1,f,h2,rfl⟩:=tP ho
      have:=(zDH (hi s h1)).1 f h2
      exact ⟨this.text,this.path,this.table⟩
     split
     ·exact hot
     ·unfold vG
      split
      ·exact ⟨hv.text,hot.path,hv.table⟩
      ·split
       ·refine ⟨?_,iM,iM⟩
        show jI (kQ _ _)
        unfold kQ
        split
        ·rename_i x hx
         obtain ⟨r,h1,h2⟩:=zAS hx
         rw [← h2]
         exact (zEk ht v.table r h1).2
        ·exact hv.text
       ·exact ⟨iM,iM,iM⟩
theorem zBi {tbs:List Tb} (ht:∀ t ∈ tbs,t.Txt) {inn:List MStep} (hi:∀ s ∈ inn,s.Txt) (w:Bool):∀ (l acc:List Fld),(∀ f ∈ l,f.Txt)→(∀ f ∈ acc,f.Txt)→∀ f ∈ (eS tbs inn w l acc).1,f.Txt
 |[],acc,_,ha=>ha
 |f::l,acc,hl,ha=>by
  unfold eS
  split
  ·exact ha
  ·refine zBi ht hi w l _ (fun x hx=>hl x (by simp [hx])) ?_
   split
   ·intro x hx
    rcases List.mem_append.1 hx with hx|hx
    ·exact ha x hx
    ·simp only [List.mem_singleton] at hx
     subst hx
     have hf:=hl f (by simp)
     have:=zHP ht (v:=f.vl) ⟨hf.text,hf.path,hf.table⟩ hi w
     exact ⟨this.text,this.path,this.table⟩
   ·exact ha
theorem mO {tbs:List Tb}:∀ (l:List MStep),(∀ s ∈ l,∀ (inn:List MStep) (w:Bool),(∀ x ∈ inn,x.Txt)→(dB tbs s inn w).1.Txt)→∀ (inn:List MStep) (w:Bool) (acc:List MStep),(∀ x ∈ inn,x.Txt)→(∀ x ∈ acc,x.Txt)→∀ x ∈ (aY tbs l inn w acc).1,x.Txt
 |[],_,_,_,acc,_,ha=>by rw [mP];exact ha
 |s::l,h,inn,w,acc,hi,ha=>by
  have e:=pR (tbs:=tbs) (l:=s::l) (i:=0) rfl inn w acc
  rw [List.drop_zero] at e
  rw [e]
  split
  ·intro x hx;cases hx
  ·refine mO l (fun x hx=>h x (by simp [hx])) inn w _ hi ?_
   split
   ·intro x hx
    rcases List.mem_append.1 hx with hx|hx
    ·exact ha x hx
    ·simp only [List.mem_singleton] at hx
     subst hx
     exact h s (by simp) inn w hi
   ·exact ha
theorem zBe {n:Str}:∀ {l:List MStep} {g:MStep},eE n l=some g→g ∈ l
 |[],_,h=>by cases h
 |s::l,g,h=>by
  unfold eE at h
  split at h
  ·cases h;simp
  ·simp [zBe h]
theorem zAF {tbs:List Tb} (ht:∀ t ∈ tbs,t.Txt) (s:MStep):s.Txt→∀ (inn:List MStep) (w:Bool),(∀ x ∈ inn,x.Txt)→(dB tbs s inn w).1.Txt:=by
 induction s using MStep.ind with
 |h k t fs n o c ss ih=>
  intro h inn w hi
  have h0:=h
  cases h with
  |mk h1 h2 h3 h4 h5 h6=>
   have hk:∀ (inn:List MStep) (w:Bool),(∀ x ∈ inn,x.Txt)→∀ x ∈ (aY tbs ss inn w []).1,x.Txt:=fun inn w hi=>mO ss (fun s hs=>ih s hs (h6 s hs)) inn w [] hi (fun x hx=>by cases hx)
   rw [rX]
   split
   ·exact h0
   ·split
    ·split
     ·exact h0
     ·exact .mk h1 (zBi ht hi w fs [] h2 fun x hx=>by cases hx) iM iM wY fun x hx=>by cases hx
    ·split
     ·exact .mk iM (fun x hx=>by cases hx) h3 iM wY (hk inn w hi)
     ·split
      ·exact h0
      ·rename_i g hg
       have hgt:=zDH (hi g (zBe hg))
       exact .mk iM (fun x hx=>by cases hx) h3 hgt.2.1 wY (hk g.kids true hgt.2.2)
theorem zAZ {t:Tb} {l:List Tb} (ht:t.Txt) (h:∀ x ∈ l,x.Txt):∀ x ∈ cI t l,x.Txt:=fun x hx=>by
 rcases mC hx with rfl|hx
 ·exact ht
 ·exact h x hx
theorem xU:∀ (l all:List Tb),(∀ x ∈ l,x.Txt)→(∀ x ∈ all,x.Txt)→∀ x ∈ dK all l,x.Txt
 |[],_,_,h=>h
 |t::l,all,hl,h=>xU l _ (fun x hx=>hl x (by simp [hx])) (zAZ (hl t (by simp)) h)
theorem uJ:∀ (l all p:List Tb),(∀ x ∈ l,x.Txt)→(∀ x ∈ all,x.Txt)→jH all l=some p→∀ x ∈ p,x.Txt
 |[],all,p,_,h,e=>by cases e;exact h
 |t::l,all,p,hl,h,e=>by
  have h1:=zAZ (hl t (by simp)) h
  unfold jH at e
  split at e
  ·split at e
   ·exact uJ l _ p (fun x hx=>hl x (by simp [hx])) h1 e
   ·cases e
  ·exact uJ l _ p (fun x hx=>hl x (by simp [hx])) h1 e
theorem uS {a b:List Tb} (ha:∀ x ∈ a,x.Txt) (hb:∀ x ∈ b,x.Txt):∀ x ∈ (dI a b).1,x.Txt:=by
 unfold dI
 split
 ·intro x hx;cases hx
 ·rename_i all h
  intro x hx
  have hx:x ∈ lR all (oL all):=hx
  unfold lR at hx
  obtain ⟨k,_,h2⟩:=List.mem_filterMap.1 hx
  exact uJ b _ all hb (xU a [] ha fun x hx=>by cases hx) h x (dN h2).1
open Go.Maps Go.WideElems
set_option maxHeartbeats 4000000
theorem zFG {k:TypeId} (hk:Tryz.prog.underlying k=some .string) {w:World} {b clock:Nat} {ents:Array MapEntry} {keys:List Str} (hh:w.heap[b]?=some (.map ents clock)) (hst:cG ents clock) (hkeys:ents.toList.map (·.key)=keys.map encStr) (hn:keys.Nodup) (hl:∀ s ∈ keys,jI s) (hsz:keys.length≤1000):
  ∃ D0:DataW Unit,w.ownsMap Tryz.prog k (fun _=>some (.lit (.bool true),[])) b keys.length D0∧(strKeys D0).Perm keys∧Maps.size D0=keys.length:=by
 have hlen:ents.toList.length=keys.length:=by
  have:=congrArg List.length hkeys
  simpa using this
 have hkey:∀ x ∈ ents.toList,∃ s ∈ keys,x.key=encStr s:=fun x hx=>by
  have:x.key ∈ keys.map encStr:=by rw [← hkeys];exact List.mem_map.2 ⟨x,hx,rfl⟩
  obtain ⟨s,h1,h2⟩:=List.mem_map.1 this
  exact ⟨s,h1,h2.symm⟩
 have hrd:∀ x ∈ ents.toList,∀ s:Str,jI s→x.key=encStr s→rd (H:=Unit) Tryz.prog k (fun _=>some (.lit (.bool true),[])) x=some (.string s,.lit (.bool true)):=fun x hx s hs e=>by
  unfold rd
  rw [e,Go.WideMaps.keyOf_string_mk hk (by show s.toArray.size≤maxLen;simpa [jI,maxLen] using hs)]
  rfl
 have hes:ents.size=keys.length:=by simpa using hlen
 refine ⟨.map ((ents.toList.map (rg (H:=Unit) Tryz.prog k fun _=>some (.lit (.bool true),[]))).foldr DataW.insert []),⟨ents,clock,hh,⟨by unfold maxLen;omega,⟨fun x hx=>hst.1 _ (List.mem_map.2 ⟨x,hx,rfl⟩),hst.2,?_⟩,fun x hx => ?_⟩,by omega,rfl⟩,?_,?_⟩
 ·rw [hkeys]
  exact List.Pairwise.map _ (fun a b h e=>h (by simpa [encStr] using e)) hn
 ·obtain ⟨s,h1,h2⟩:=hkey x hx
  exact ⟨_,hrd x hx s (hl s h1) h2⟩
 ·show ((List.foldr DataW.insert [] (ents.toList.map (rg Tryz.prog k _))).map fun p=>strOf p.1).Perm keys
  refine ((Go.WideShapes.sorted_perm _).map _).trans ?_
  rw [List.map_map]
  have:ents.toList.map ((fun p=>strOf p.1) ∘ rg (H:=Unit) Tryz.prog k fun _=>some (.lit (.bool true),[]))=keys:=by
   have h2:∀ (l:List MapEntry) (ks:List Str),(∀ x ∈ l,∀ s:Str,jI s→x.key=encStr s→rd (H:=Unit) Tryz.prog k (fun _=>some (.lit (.bool true),[])) x=some (.string s,.lit (.bool true)))→l.map (·.key)=ks.map encStr→(∀ s ∈ ks,jI s)→l.map ((fun p=>strOf p.1) ∘ rg (H:=Unit) Tryz.prog k fun _=>some (.lit (.bool true),[]))=ks:=by
    intro l
    induction l with
    |nil=>intro ks _ h _;cases ks with|nil=>rfl|cons a b=>simp at h
    |cons x l ih=>
     intro ks h1 h2 h3
     cases ks with
     |nil=>simp at h2
     |cons s ks=>
      simp only [List.map_cons,List.cons.injEq] at h2
      rw [List.map_cons,ih ks (fun y hy=>h1 y (by simp [hy])) h2.2 (fun y hy=>h3 y (by simp [hy]))]
      have:=h1 x (by simp) s (h3 s (by simp)) h2.1
      congr 1
      show strOf (rg _ _ _ x).1=s
      unfold rg
      rw [this]
      rfl
   exact h2 _ _ hrd hkeys hl
  rw [this]
 ·show (List.foldr DataW.insert [] (ents.toList.map (rg Tryz.prog k _))).length=keys.length
  rw [(Go.WideShapes.sorted_perm _).length_eq,List.length_map,hlen]
end Go.Proofs.YtnjgoldinaffgaaGreatDoor
namespace Go.Proofs.YtnjgoldinaffgaaGreatDoor
open _root_.Go.Proofs.Tryz
set_option linter.unusedSimpArgs false
set_option linter.unusedVariables false
open Go.RowKit
set_option maxRecDepth 100000
set_option maxHeartbeats 4000000
theorem Tb.row_len (t:Tb):t.row.length=2:=rfl
theorem mL (t:Tb) (n:Str):Sem Tryz.prog 173 [.agg t.row,.str n] (.int .i64 (Lib.compareBytes t.name n)):=by
 unfold Tb.row
 refine si [1000157] func173 ?_
 repeat'((conv=>whnf);first|(try(first|apply eN|apply eI|apply eC);conv=>whnf);apply sD;(focus first|(refine gx (wC ?_ ?_)<;>exact pre)|exact bV)|apply rR|apply rE|apply rH| (apply cD<;>intro hb<;>(try simp only[aA]at hb)<;>try exact aM))
 all_goals try exact false
 exact aT
theorem oI (r:Str × Str) (n:Str):Sem Tryz.prog 192 [.agg (rU r),.str n] (.int .i64 (Lib.compareBytes r.1 n)):=by
 unfold rU
 refine si [1000157] func192 ?_
 repeat'((conv=>whnf);first|(try(first|apply eN|apply eI|apply eC);conv=>whnf);apply sD;(focus first|(refine gx (wC ?_ ?_)<;>exact pre)|exact bV)|apply rR|apply rE|apply rH| (apply cD<;>intro hb<;>(try simp only[aA]at hb)<;>try exact aM))
 all_goals try exact false
 exact aT
theorem uV (l:List Tb) (n:Str) (hl:l.length≤1000000) (hr:bU Tb.name l) (i:Nat) (hi:Halves Tb.name l n i i):Sem Tryz.prog 172 [.sl 0 2 (l.map Tb.row),.str n,.fn 173 []] (.tup [.int .i64 i,.bool (rJ Tb.name l n)]):=by
 refine si [1000157] func172 ?_
 repeat'((conv=>whnf);first|(try(first|apply eN|apply eI|apply eT|apply eC);conv=>whnf);apply sD;(focus(try intro hc;have hc0:=hc;(try simp only[aA]at hc);try refine aE ?_);first|(refine gx (mL ?_ ?_)<;>exact pre)|exact aC)|apply rR|apply rE|apply rH| (apply cD<;>intro hb<;>(try simp only[aA]at hb)<;>try exact aM))
 all_goals try exact false
 refine aL (M:=fun t=>gF t [1000157]) hT hM (fun x:Nat × Nat => [(9,.int .i64 x.1),(10,.int .i64 x.2)]) (fun x=>Halves Tb.name l n x.1 x.2) (fun x=>x.2 - x.1) ((0,l.length)) ?_ ?_ ?_
 ·(conv=>whnf)
  refine ⟨?_,by rfl⟩
  repeat' ((conv=>whnf);first|exact bE|(exact cT (by simp))|exact aO|with_reducible apply dC)
 ·exact Halves.start Tb.name l n
 ·rintro x hx
  have hle:=hx.le
  have hlj:=hx.lj
  by_cases hlt:x.1 < x.2
  ·obtain ⟨p,hp⟩:∃ p,l[(x.1+x.2) / 2]?=some p:=⟨l[(x.1+x.2) / 2],List.getElem?_eq_getElem (by omega)⟩
   repeat'((conv=>whnf);first|(try(first|apply eN|apply eI|apply eT|apply eC);conv=>whnf);apply sD;(focus(try intro hc;have hc0:=hc;(try simp only[aA]at hc);try refine aE ?_);first|(refine gx (mL ?_ ?_)<;>exact pre)|(exact aP hp (by omega))|exact aC)|apply rR|apply rE|apply rH| (apply cD<;>intro hb<;>(try simp only[aA]at hb)<;>try exact aM))
   all_goals try exact false
   ·refine ⟨((x.1+x.2) / 2+1,x.2),hx.right hr (by omega) (by omega) hp ((pD _ _).1 hb),by simp only;omega,?_⟩
    (conv=>whnf)
    refine ⟨?_,by rfl⟩
    repeat' ((conv=>whnf);first|exact bE|(exact cT (by omega))|exact aO|with_reducible apply dC)
   ·refine ⟨(x.1,(x.1+x.2) / 2),hx.left hr (by omega) (by omega) hp (by rw [Bool.eq_false_iff];intro h;have:=(pD p.name n).2 h;omega),by simp only;omega,?_⟩
    (conv=>whnf)
    refine ⟨?_,by rfl⟩
    repeat' ((conv=>whnf);first|exact bE|(exact cT (by omega))|exact aO|with_reducible apply dC)
  ·have he:x.2=x.1:=by omega
   have hx':Halves Tb.name l n x.1 x.1:=by rw [he] at hx;exact hx
   have hii:=yZ hi hx'
   obtain ⟨q,hq⟩:∃ q:Tb,x.1 < l.length→l[x.1]?=some q:=by
    by_cases h:x.1 < l.length
    ·exact ⟨l[x.1],fun _=>List.getElem?_eq_getElem h⟩
    ·exact ⟨⟨[],[]⟩,fun h'=>absurd h' h⟩
   have hfin:rJ Tb.name l n=(decide ((x.1:Int) < l.length) && (Lib.compareBytes q.name n == 0)):=by
    by_cases h:x.1 < l.length
    ·have hd:decide ((x.1:Int) < l.length)=true:=decide_eq_true (by omega)
     rw [hx'.some hr (hq h),hd,Bool.true_and,Bool.eq_iff_iff,decide_eq_true_eq,beq_iff_eq,zFf]
    ·have hd:decide ((x.1:Int) < l.length)=false:=decide_eq_false (by omega)
     rw [hx'.none (by omega),hd,Bool.false_and]
   repeat'((conv=>whnf);first|(try(first|apply eN|apply eI|apply eT|apply eC);conv=>whnf);apply sD;(focus(try intro hc;have hc0:=hc;(try simp only[aA]at hc);try refine aE ?_);first|(refine gx (mL q n)<;>exact pre)|(exact aP (hq (by omega)) (by omega))|exact aC)|apply rR|apply rE|apply rH| (apply cD<;>intro hb<;>(try simp only[aA]at hb)<;>try exact aM))
   all_goals try exact false
   repeat' ((conv=>whnf);first|exact aI|with_reducible first|apply And.intro|apply oR|apply oN|apply dC)
   all_goals (conv=>whnf)
   all_goals first|exact aJ (by rw [hii])|exact aS (by rw [hfin,List.length_map])|exact aS hfin.symm
theorem uW (l:List (Str × Str)) (n:Str) (hl:l.length≤1000000) (hr:bU Prod.fst l) (i:Nat) (hi:Halves Prod.fst l n i i):Sem Tryz.prog 191 [.sl 0 2 (l.map rU),.str n,.fn 192 []] (.tup [.int .i64 i,.bool (rJ Prod.fst l n)]):=by
 refine si [1000157] func191 ?_
 repeat'((conv=>whnf);first|(try(first|apply eN|apply eI|apply eT|apply eC);conv=>whnf);apply sD;(focus(try intro hc;have hc0:=hc;(try simp only[aA]at hc);try refine aE ?_);first|(refine gx (oI ?_ ?_)<;>exact pre)|exact aC)|apply rR|apply rE|apply rH| (apply cD<;>intro hb<;>(try simp only[aA]at hb)<;>try exact aM))
 all_goals try exact false
 refine aL (M:=fun t=>gF t [1000157]) hT hM (fun x:Nat × Nat => [(9,.int .i64 x.1),(10,.int .i64 x.2)]) (fun x=>Halves Prod.fst l n x.1 x.2) (fun x=>x.2 - x.1) ((0,l.length)) ?_ ?_ ?_
 ·(conv=>whnf)
  refine ⟨?_,by rfl⟩
  repeat' ((conv=>whnf);first|exact bE|(exact cT (by simp))|exact aO|with_reducible apply dC)
 ·exact Halves.start Prod.fst l n
 ·rintro x hx
  have hle:=hx.le
  have hlj:=hx.lj
  by_cases hlt:x.1 < x.2
  ·obtain ⟨p,hp⟩:∃ p,l[(x.1+x.2) / 2]?=some p:=⟨l[(x.1+x.2) / 2],List.getElem?_eq_getElem (by omega)⟩
   repeat'((conv=>whnf);first|(try(first|apply eN|apply eI|apply eT|apply eC);conv=>whnf);apply sD;(focus(try intro hc;have hc0:=hc;(try simp only[aA]at hc);try refine aE ?_);first|(refine gx (oI ?_ ?_)<;>exact pre)|(exact aP hp (by omega))|exact aC)|apply rR|apply rE|apply rH| (apply cD<;>intro hb<;>(try simp only[aA]at hb)<;>try exact aM))
   all_goals try exact false
   ·refine ⟨((x.1+x.2) / 2+1,x.2),hx.right hr (by omega) (by omega) hp ((pD _ _).1 hb),by simp only;omega,?_⟩
    (conv=>whnf)
    refine ⟨?_,by rfl⟩
    repeat' ((conv=>whnf);first|exact bE|(exact cT (by omega))|exact aO|with_reducible apply dC)
   ·refine ⟨(x.1,(x.1+x.2) / 2),hx.left hr (by omega) (by omega) hp (by rw [Bool.eq_false_iff];intro h;have:=(pD p.1 n).2 h;omega),by simp only;omega,?_⟩
    (conv=>whnf)
    refine ⟨?_,by rfl⟩
    repeat' ((conv=>whnf);first|exact bE|(exact cT (by omega))|exact aO|with_reducible apply dC)
  ·have he:x.2=x.1:=by omega
   have hx':Halves Prod.fst l n x.1 x.1:=by rw [he] at hx;exact hx
   have hii:=yZ hi hx'
   obtain ⟨q,hq⟩:∃ q:Str × Str,x.1 < l.length→l[x.1]?=some q:=by
    by_cases h:x.1 < l.length
    ·exact ⟨l[x.1],fun _=>List.getElem?_eq_getElem h⟩
    ·exact ⟨([],[]),fun h'=>absurd h' h⟩
   have hfin:rJ Prod.fst l n=(decide ((x.1:Int) < l.length) && (Lib.compareBytes q.1 n == 0)):=by
    by_cases h:x.1 < l.length
    ·have hd:decide ((x.1:Int) < l.length)=true:=decide_eq_true (by omega)
     rw [hx'.some hr (hq h),hd,Bool.true_and,Bool.eq_iff_iff,decide_eq_true_eq,beq_iff_eq,zFf]
    ·have hd:decide ((x.1:Int) < l.length)=false:=decide_eq_false (by omega)
     rw [hx'.none (by omega),hd,Bool.false_and]
   repeat'((conv=>whnf);first|(try(first|apply eN|apply eI|apply eT|apply eC);conv=>whnf);apply sD;(focus(try intro hc;have hc0:=hc;(try simp only[aA]at hc);try refine aE ?_);first|(refine gx (oI q n)<;>exact pre)|(exact aP (hq (by omega)) (by omega))|exact aC)|apply rR|apply rE|apply rH| (apply cD<;>intro hb<;>(try simp only[aA]at hb)<;>try exact aM))
   all_goals try exact false
   repeat' ((conv=>whnf);first|exact aI|with_reducible first|apply And.intro|apply oR|apply oN|apply dC)
   all_goals (conv=>whnf)
   all_goals first|exact aJ (by rw [hii])|exact aS (by rw [hfin,List.length_map])|exact aS hfin.symm
theorem kM (l:List Tb) (n:Str) (hl:l.length≤1000000) (hr:bU Tb.name l) (i:Nat) (hi:Halves Tb.name l n i i):Sem Tryz.prog 125 [.sl 0 2 (l.map Tb.row),.str n] (.tup [.int .i64 i,.bool (rJ Tb.name l n)]):=by
 have h:=uV l n hl hr i hi
 generalize rJ Tb.name l n=b at h ⊢
 refine si [1000157] func125 ?_
 repeat'((conv=>whnf);first|(try(first|apply eN|apply eC);conv=>whnf);apply sD;(focus first|exact gx h|(refine gx (uV ?_ ?_ ?_ ?_ ?_ ?_)<;>exact pre)|exact bV)|apply rR|apply rE|apply rH| (apply cD<;>intro hb<;>(try simp only[aA]at hb)<;>try exact aM))
 all_goals try exact false
 exact aT
def kA (l:List Tb) (i:Nat):Option Str:=if i=0 then none else l[i - 1]?.map Tb.name
def zAs (s:Str):Bool:=s == [] || !dJ s
theorem zFw {l:List (Str × Str)} {i:Nat} {r:Str × Str} (h:l[i]?=some r) (prev:Option Str):eH prev (l.drop i)=if qU prev r ≠ 0 then qU prev r else eH (some r.1) (l.drop (i+1)):=by
 rw [List.drop_eq_getElem_cons (bC h),(List.getElem?_eq_some_iff.1 h).2,eH]
theorem zAR (prev:Option Str) (r:Str × Str):qU prev r=if zAs r.1=true then 3 else if zAs r.2=true then 3 else if fI prev r.1=true then 8 else 0:=rfl
def xZ (l:List (Str × Str)) (i:Nat):Option Str:=if i=0 then none else l[i - 1]?.map Prod.fst
theorem xX {l:List Tb} {i:Nat} {t:Tb} (h:l[i]?=some t):kA l (i+1)=some t.name:=by
 unfold kA
 rw [if_neg (by omega),Nat.add_sub_cancel,h]
 rfl
theorem xY {l:List (Str × Str)} {i:Nat} {r:Str × Str} (h:l[i]?=some r):xZ l (i+1)=some r.1:=by
 unfold xZ
 rw [if_neg (by omega),Nat.add_sub_cancel,h]
 rfl
theorem zFz (l:List Tb) (i:Nat) (n:Str) (hi:i≤l.length):∃ q:Tb,(0 < i→l[i - 1]?=some q)∧fI (kA l i) n=(decide (0 < (i:Int)) && (Op.bytesLess n q.name || n == q.name)):=by
 by_cases h0:i=0
 ·exact ⟨⟨[],[]⟩,fun h=>by omega,by simp [kA,fI,h0]⟩
 ·refine ⟨l[i - 1]'(by omega),fun _=>List.getElem?_eq_getElem (by omega),?_⟩
  unfold kA fI
  rw [if_neg h0,List.getElem?_eq_getElem (by omega)]
  have:decide (0 < (i:Int))=true:=decide_eq_true (by omega)
  rw [this]
  rfl
theorem zFA (l:List (Str × Str)) (i:Nat) (n:Str) (hi:i≤l.length):∃ q:Str × Str,(0 < i→l[i - 1]?=some q)∧fI (xZ l i) n=(decide (0 < (i:Int)) && (Op.bytesLess n q.1 || n == q.1)):=by
 by_cases h0:i=0
 ·exact ⟨([],[]),fun h=>by omega,by simp [xZ,fI,h0]⟩
 ·refine ⟨l[i - 1]'(by omega),fun _=>List.getElem?_eq_getElem (by omega),?_⟩
  unfold xZ fI
  rw [if_neg h0,List.getElem?_eq_getElem (by omega)]
  have:decide (0 < (i:Int))=true:=decide_eq_true (by omega)
  rw [this]
  rfl
theorem tY {i:Nat} {n q:Str} (h:(i:Int)≤0∨Op.bytesLess n q=false∧¬ n=q):¬ (decide (0 < (i:Int)) && (Op.bytesLess n q || n == q))=true:=by
 rcases h with h|⟨h1,h2⟩
 ·rw [decide_eq_false (by omega)];simp
 ·rw [h1];simp [h2]
theorem zBn{p:Prop}(h:p:=by first|(refine gx (rI ?_ ?_)<;>exact pre)|(refine gx (fQ ?_ ?_)<;>exact pre)|(refine gx (dU ?_)<;>exact pre)):p:=h
theorem nQ (l:List Tb) (i:Nat) (t:Tb) (hx:l[i]?=some t) (hl:l.length≤1000000) (ht:jI t.name):Sem Tryz.prog 34 [.sl 0 2 (l.map Tb.row),.int .i64 i] (.int .i64 (nG (kA l i) t)):=by
 obtain ⟨n,rows⟩:=t
 have hlt:=(bC hx)
 have h1:=fQ n ht
 have hte:nG (kA l i) ⟨n,rows⟩=if aR n=false then 5 else if fI (kA l i) n=true then 8 else if 500 < rows.length then 2 else eH none rows:=rfl
 obtain ⟨q,hq,hpq⟩:=zFz l i n (by omega)
 rw [hpq] at hte
 generalize aR n=b1 at h1 hte
 generalize nG (kA l i) ⟨n,rows⟩=e at hte ⊢
 refine si [5,2000005,7,2000007,1000157] func34 ?_
 repeat'((conv=>whnf);first|(try(first|apply eN|apply eI|apply eT|apply eC);conv=>whnf);apply sD;(focus(try intro hc;have hc0:=hc;(try simp only[aA]at hc);try refine aE ?_);first|exact gx h1|exact zBn|(exact aP hx rfl)|(exact aP (hq (by omega)) (by omega))|exact aC)|(first|apply dG|apply kB);kernel_rfl|apply rR|apply rE|apply rH| (apply cD<;>intro hb<;>(try simp only[aA]at hb)<;>try exact aM))
 all_goals try exact false
 ·repeat' ((conv=>whnf);first|exact aI|with_reducible first|apply And.intro|apply oR|apply oN|apply dC)
  all_goals (conv=>whnf)
  exact aJ (by rw [hte,if_pos (by simpa using hb)])
 ·repeat' ((conv=>whnf);first|exact aI|with_reducible first|apply And.intro|apply oR|apply oN|apply dC)
  all_goals (conv=>whnf)
  exact aJ (by rw [hte,if_neg (by simp_all),if_pos (by simp_all)])
 ·repeat' ((conv=>whnf);first|exact aI|with_reducible first|apply And.intro|apply oR|apply oN|apply dC)
  all_goals (conv=>whnf)
  exact aJ (by rw [hte,if_neg (by simp_all),if_neg (tY (by assumption)),if_pos (by omega)])
 ·rw [if_neg (by simp_all),if_neg (tY (by assumption)),if_neg (by omega)] at hte
  clear hpq hq
  refine aL (M:=fun t=>gF t [5,2000005,7,2000007,1000157]) hT hM (fun k:Nat => [(41,.int .i64 k)]) (fun k=>k≤rows.length∧eH (xZ rows k) (rows.drop k)=e) (fun k=>rows.length - k) (0) ?_ ?_ ?_
  ·exact aV
  ·exact ⟨Nat.zero_le _,hte.symm⟩
  ·rintro k ⟨hk,hv⟩
   cases hx2:rows[k]? with
   |none=>
    have hm:=List.getElem?_eq_none_iff.1 hx2
    rw [List.drop_of_length_le hm] at hv
    repeat'((conv=>whnf);first|(try(first|apply eN|apply eI|apply eT|apply eC);conv=>whnf);apply sD;(focus(try intro hc;have hc0:=hc;(try simp only[aA]at hc);try refine aE ?_);first|exact zBn|exact aC)|(first|apply dG|apply kB);kernel_rfl|apply rR|apply rE|apply rH| (apply cD<;>intro hb<;>(try simp only[aA]at hb)<;>try exact aM))
    all_goals try exact false
    repeat' ((conv=>whnf);first|exact aI|with_reducible first|apply And.intro|apply oR|apply oN|apply dC)
    all_goals (conv=>whnf)
    exact aJ hv
   |some r=>
    have hkl:=(bC hx2)
    rw [zFw hx2,zAR] at hv
    obtain ⟨q2,hq2,hp2⟩:=zFA rows k r.1 (by omega)
    rw [hp2] at hv
    have ht1:=dU r.1
    have ht2:=dU r.2
    have e1:zAs r.1=(r.1 == [] || !dJ r.1):=rfl
    have e2:zAs r.2=(r.2 == [] || !dJ r.2):=rfl
    generalize zAs r.1=z1 at e1 hv
    generalize zAs r.2=z2 at e2 hv
    generalize dJ r.1=x1 at ht1 e1
    generalize dJ r.2=x2 at ht2 e2
    repeat'((conv=>whnf);first|(try(first|apply eN|apply eI|apply eT|apply eC);conv=>whnf);apply sD;(focus(try intro hc;have hc0:=hc;(try simp only[aA]at hc);try refine aE ?_);first|exact zBn|(exact aP hx2 rfl)|exact aC)|(first|apply dG|apply kB);kernel_rfl|apply rR|apply rE|apply rH| (apply cD<;>intro hb<;>(try simp only[aA]at hb)<;>try exact aM))
    all_goals try exact false
    refine aL (M:=fun t=>gF t [5,2000005,7,2000007,1000157]) hT hM (fun j:Nat => [(47,.int .i64 j)]) (fun j=>j≤2∧(1≤j→z1=false)∧(2≤j→z2=false)) (fun j=>2 - j) (0) ?_ ?_ ?_
    ·exact aV
    ·exact ⟨by omega,fun h=>by omega,fun h=>by omega⟩
    ·rintro j ⟨hj,hj1,hj2⟩
     obtain rfl|rfl|rfl:j=0∨j=1∨j=2:=by omega
     ·repeat'((conv=>whnf);first|(try(first|apply eN|apply eI|apply eT|apply eC);conv=>whnf);apply sD;(focus(try intro hc;have hc0:=hc;(try simp only[aA]at hc);try refine aE ?_);first|exact gx ht1|exact zBn|(exact ⟨by omega,by omega,rfl⟩)|exact aC)|(first|apply dG|apply kB);kernel_rfl|apply rR|apply rE|apply rH| (apply cD<;>intro hb<;>(try simp only[aA]at hb)<;>try exact aM))
      all_goals try exact false
      ·have hz:z1=true:=by rw [e1];rcases hb with h|h<;>simp [h]
       rw [if_pos (by simp [hz]),if_pos hz] at hv
       repeat' ((conv=>whnf);first|exact aI|with_reducible first|apply And.intro|apply oR|apply oN|apply dC)
       all_goals (conv=>whnf)
       exact aJ hv
      ·have hz:z1=false:=by rw [e1];simp [hb]
       refine ⟨1,⟨by omega,fun _=>hz,fun h=>by omega⟩,by omega,?_⟩
       exact aV
     ·have hz1:=hj1 (by omega)
      repeat'((conv=>whnf);first|(try(first|apply eN|apply eI|apply eT|apply eC);conv=>whnf);apply sD;(focus(try intro hc;have hc0:=hc;(try simp only[aA]at hc);try refine aE ?_);first|exact gx ht2|exact zBn|(exact ⟨by omega,by omega,rfl⟩)|exact aC)|(first|apply dG|apply kB);kernel_rfl|apply rR|apply rE|apply rH| (apply cD<;>intro hb<;>(try simp only[aA]at hb)<;>try exact aM))
      all_goals try exact false
      ·have hz:z2=true:=by rw [e2];rcases hb with h|h<;>simp [h]
       rw [hz1,hz] at hv
       repeat' ((conv=>whnf);first|exact aI|with_reducible first|apply And.intro|apply oR|apply oN|apply dC)
       all_goals (conv=>whnf)
       exact aJ hv
      ·have hz:z2=false:=by rw [e2];simp [hb]
       refine ⟨2,⟨by omega,fun _=>hz1,fun _=>hz⟩,by omega,?_⟩
       exact aV
     ·have hz1:=hj1 (by omega)
      have hz2:=hj2 (by omega)
      repeat'((conv=>whnf);first|(try(first|apply eN|apply eI|apply eT|apply eC);conv=>whnf);apply sD;(focus(try intro hc;have hc0:=hc;(try simp only[aA]at hc);try refine aE ?_);first|exact zBn|(exact aP (hq2 (by omega)) (by omega))|exact aC)|(first|apply dG|apply kB);kernel_rfl|apply rR|apply rE|apply rH| (apply cD<;>intro hb<;>(try simp only[aA]at hb)<;>try exact aM))
      all_goals try exact false
      ·have hz:(decide (0 < (k:Int)) && (Op.bytesLess r.1 q2.1 || r.1 == q2.1))=true:=by simpa using hb
       rw [hz1,hz2,hz] at hv
       repeat' ((conv=>whnf);first|exact aI|with_reducible first|apply And.intro|apply oR|apply oN|apply dC)
       all_goals (conv=>whnf)
       exact aJ hv
      ·rw [hz1,hz2,if_neg (by rw [if_neg (by decide),if_neg (by decide),if_neg (tY hb)];simp)] at hv
       refine ⟨k+1,⟨by omega,by rw [xY hx2];exact hv⟩,by omega,?_⟩
       exact aV
theorem nP (tbs:List Tb) (f:Fld) (ht:aW tbs=0):Sem Tryz.prog 156 [.sl 0 2 (tbs.map Tb.row),.agg f.vl.row] (.int .i64 (eF tbs f)):=by
 obtain ⟨k1,k2,_⟩:=dO ht
 obtain ⟨i,hi⟩:=nB (n:=f.table) k2 _ 0 tbs.length (Nat.le_refl _) (Halves.start Tb.name tbs f.table)
 have h3:=kM tbs f.table (by omega) k2 i hi
 have h1:=dU f.text
 have h2:=iQ f.path
 have h4:=bJ f.kind 1 5
 have hk:rJ Tb.name tbs f.table=iD tbs f.table:=rfl
 rw [hk] at h3
 have hr:eF tbs f=if f.kind < 1∨5 < f.kind then 4
  else if (f.kind ≠ 1∧f.kind ≠ 3∧f.text ≠ [])∨(f.kind=1∧f.path ≠ [])∨(f.kind ≠ 3∧f.table ≠ []) then 3
  else if dJ f.text=false∨(f.kind=1∧f.text = []) then 3
  else if f.kind=1 then 0
  else if bW f.path ≠ 0 then bW f.path
  else if f.kind=3∧iD tbs f.table=false then 9 else 0:=rfl
 generalize eF tbs f=r at hr ⊢
 generalize iD tbs f.table=b3 at h3 hr
 generalize dJ f.text=b1 at h1 hr
 generalize bW f.path=e2 at h2 hr
 unfold Fld.vl MVal.row
 obtain ⟨fe,fp,k,tx,pa,ta⟩:=f
 dsimp only at *
 clear hi hk k1 k2 ht
 refine si [1000157] func156 ?_
 repeat'((conv=>whnf);first|(try(first|apply eN|apply eI|apply eC);conv=>whnf);apply sD;(focus(try intro hc;have hc0:=hc;(try simp only[aA]at hc);try refine aE ?_);first|exact gx h1|exact gx h2|exact gx h3|exact gx h4|(refine gx (fK ?_ ?_)<;>exact pre)|(refine gx (rI ?_ ?_)<;>exact pre)|(refine gx (bJ ?_ ?_ ?_)<;>exact pre)|(refine gx (dU ?_)<;>exact pre)|(refine gx (iQ ?_)<;>exact pre)|(refine gx (kM ?_ ?_ ?_ ?_ ?_ ?_)<;>exact pre)|exact aC)|(first|apply dG|apply kB);kernel_rfl|apply rR|apply rE|apply rH| (apply cD<;>intro hb<;>(try simp only[aA]at hb)<;>try exact aM))
 all_goals try exact false
 all_goals (
  repeat' ((conv=>whnf);first|exact aI|with_reducible first|apply And.intro|apply oR|apply oN|apply dC)
  all_goals (conv=>whnf)
  refine aJ ?_
  rw [hr]
  clear h1 h2 h3 h4 hr
  repeat' split
  all_goals first|omega|rfl|(simp_all;done)|(simp_all;omega)|grind)
theorem lE (a b:Fld) (ha:0≤a.el∧a.el≤1000∧0≤a.pt∧a.pt≤1000) (hb':0≤b.el∧b.el≤1000∧0≤b.pt∧b.pt≤1000):Sem Tryz.prog 58 [.agg a.row,.agg b.row] (.int .i64 (if a.el=b.el then a.pt - b.pt else a.el - b.el)):=by
 unfold Fld.row
 refine si [1000157] func58 ?_
 repeat'((conv=>whnf);first|(try(first|apply eN|apply eI);conv=>whnf);apply sD;(focus first|exact bV)|apply rR|apply rE|apply rH| (apply cD<;>intro hb<;>(try simp only[aA]at hb)<;>try exact aM))
 all_goals try exact false
 ·repeat' ((conv=>whnf);first|exact aI|with_reducible first|apply And.intro|apply oR|apply oN|apply dC)
  all_goals (conv=>whnf)
  exact aJ (by rw [if_neg (by omega)])
 ·repeat' ((conv=>whnf);first|exact aI|with_reducible first|apply And.intro|apply oR|apply oN|apply dC)
  all_goals (conv=>whnf)
  exact aJ (by rw [if_pos (by omega)])
def InF (f:Fld):Prop:=1≤f.el∧f.el≤50∧1≤f.pt∧f.pt≤20
def fW (l:List Fld) (i:Nat):Option Fld:=if i=0 then none else l[i - 1]?
theorem zF4 {tbs:List Tb} {l:List Fld} {i:Nat} {f:Fld} (h:l[i]?=some f) (prev:Option Fld):eM tbs prev (l.drop i)=if lM tbs prev f ≠ 0 then lM tbs prev f else eM tbs (some f) (l.drop (i+1)):=by
 rw [List.drop_eq_getElem_cons (bC h),(List.getElem?_eq_some_iff.1 h).2,eM]
theorem qW {l:List Fld} {i:Nat} {f:Fld} (h:l[i]?=some f):fW l (i+1)=some f:=by
 unfold fW
 rw [if_neg (by omega),Nat.add_sub_cancel,h]
theorem jR {l:List Fld} {i:Int} {j:Nat} {f:Fld} (h:l[j]?=some f) (hi':i=j):0≤i∧(l.map Fld.row)[i.toNat]?=some [.int .i64 f.el,.int .i64 f.pt,.int .i64 f.kind,.str f.text,.str f.path,.str f.table]:=by
 subst hi'
 refine ⟨by omega,?_⟩
 rw [Int.toNat_natCast,List.getElem?_map,h,Option.map_some]
 rfl
theorem zFg {p f:Fld}:(if f.el=p.el then f.pt - p.pt else f.el - p.el)≤0↔eB (some p) f=false:=by
 unfold eB
 simp only [Bool.or_eq_false_iff,decide_eq_false_iff_not,Bool.and_eq_false_iff]
 split<;>omega
theorem zKy{p:Prop}(h:p:=by first|(refine gx (fK ?_ ?_)<;>exact pre)|(refine gx (mE ?_ ?_)<;>exact pre)|(refine gx (bJ ?_ ?_ ?_)<;>exact pre)|(refine gx (lE ?_ ?_ ?_ ?_)<;>exact pre)|(refine gx (nP ?_ ?_ ?_)<;>exact pre)):p:=h
theorem lU (tbs:List Tb) (ht:aW tbs=0) (k:Int) (t:Str) (hst:jI t) (fs:List Fld) (n o:Str) (ck:Int) (cr:List (List D)) (cp:Str) (cv:List (List D)) (cl ch:Int) (rows:List (List D)):Sem Tryz.prog 112 [.sl 0 2 (tbs.map Tb.row),.agg [.int .i64 k,.str t,.sl 0 6 (fs.map Fld.row),.str n,.str o,.int .i64 ck,.sl 0 6 cr,.str cp,.sl 0 1 cv,.int .i64 cl,.int .i64 ch,.sl 0 12 rows]] (.int .i64 (lK tbs t fs)):=by
 have h1:=mE t hst
 have hr:lK tbs t fs=if cA t=false then 5 else if fs.length=0 then 9 else if 30 < fs.length then 2 else eM tbs none fs:=rfl
 generalize lK tbs t fs=r at hr ⊢
 generalize cA t=b1 at h1 hr
 have hll:(fs.map Fld.row).length=fs.length:=List.length_map _
 refine si [6,2000006,1000157] func112 ?_
 repeat'((conv=>whnf);first|(try(first|apply eN|apply eI|apply eC);conv=>whnf);apply sD;(focus(try intro hc;have hc0:=hc;(try simp only[aA]at hc);try refine aE ?_);first|exact gx h1|exact zKy|exact aC)|(first|apply dG|apply kB);kernel_rfl|apply rR|apply rE|apply rH| (apply cD<;>intro hb<;>(try simp only[aA]at hb)<;>try exact aM))
 all_goals try exact false
 ·repeat' ((conv=>whnf);first|exact aI|with_reducible first|apply And.intro|apply oR|apply oN|apply dC)
  all_goals (conv=>whnf)
  exact aJ (by rw [hr,if_pos hb])
 ·repeat' ((conv=>whnf);first|exact aI|with_reducible first|apply And.intro|apply oR|apply oN|apply dC)
  all_goals (conv=>whnf)
  exact aJ (by rw [hr,if_neg (by simp_all),if_pos (by omega)])
 ·repeat' ((conv=>whnf);first|exact aI|with_reducible first|apply And.intro|apply oR|apply oN|apply dC)
  all_goals (conv=>whnf)
  exact aJ (by rw [hr,if_neg (by simp_all),if_neg (by omega),if_pos (by omega)])
 ·rw [if_neg (by simp_all),if_neg (by omega),if_neg (by omega)] at hr
  refine aL (M:=fun t=>gF t [6,2000006,1000157]) hT hM (fun i:Nat => [(26,.int .i64 i)]) (fun i=>i≤fs.length∧eM tbs (fW fs i) (fs.drop i)=r∧∀ p,fW fs i=some p→InF p) (fun i=>fs.length - i) (0) ?_ ?_ ?_
  ·exact aV
  ·exact ⟨Nat.zero_le _,hr.symm,fun p h=>by cases h⟩
  ·rintro i ⟨hi,hv,hp⟩
   cases hx:fs[i]? with
   |none=>
    have hm:=List.getElem?_eq_none_iff.1 hx
    rw [List.drop_of_length_le hm] at hv
    repeat'((conv=>whnf);first|(try(first|apply eN|apply eI|apply eC);conv=>whnf);apply sD;(focus(try intro hc;have hc0:=hc;(try simp only[aA]at hc);try refine aE ?_);first|exact zKy|exact aC)|(first|apply dG|apply kB);kernel_rfl|apply rR|apply rE|apply rH| (apply cD<;>intro hb<;>(try simp only[aA]at hb)<;>try exact aM))
    all_goals try exact false
    repeat' ((conv=>whnf);first|exact aI|with_reducible first|apply And.intro|apply oR|apply oN|apply dC)
    all_goals (conv=>whnf)
    exact aJ hv
   |some f=>
    have hlt:=(bC hx)
    rw [zF4 hx] at hv
    have h2:=nP tbs f ht
    have h3:=bJ f.el 1 50
    have h4:=bJ f.pt 1 20
    unfold Fld.vl MVal.row at h2
    obtain ⟨q,hq,hqp⟩:∃ q:Fld,(0 < i→fs[i - 1]?=some q∧InF q∧fW fs i=some q)∧InF q:=by
     by_cases h0:i=0
     ·exact ⟨⟨1,1,0,[],[],[]⟩,fun h=>by omega,by unfold InF;decide⟩
     ·have he:fs[i - 1]?=some (fs[i - 1]'(by omega)):=List.getElem?_eq_getElem (by omega)
      have hpf:fW fs i=some (fs[i - 1]'(by omega)):=by unfold fW;rw [if_neg h0,he]
      exact ⟨_,fun _=>⟨he,hp _ hpf,hpf⟩,hp _ hpf⟩
    have hfe:lM tbs (fW fs i) f=if f.el < 1∨50 < f.el∨f.pt < 1∨20 < f.pt then 1 else if eB (fW fs i) f=false then 8 else eF tbs f:=rfl
    generalize lM tbs (fW fs i) f=e at hfe hv
    generalize eF tbs f=e2 at h2 hfe
    have h5:1≤f.el∧f.el≤50∧1≤f.pt∧f.pt≤20→Sem Tryz.prog 58 [.agg f.row,.agg q.row] (.int .i64 (if f.el=q.el then f.pt - q.pt else f.el - q.el)):=fun h=>lE f q (by omega) (by unfold InF at hqp;omega)
    unfold Fld.row at h5
    have hc:=zFg (p:=q) (f:=f)
    generalize (if f.el=q.el then f.pt - q.pt else f.el - q.el)=cmp at h5 hc
    have hbf:(i:Int)≤0∨0 < cmp→¬ eB (fW fs i) f=false:=fun h=>by
     by_cases h0:i=0
     ·subst h0;simp [fW,eB]
     ·rw [(hq (by omega)).2.2,← hc];omega
    repeat'((conv=>whnf);first|(try(first|apply eN|apply eI|apply eC);conv=>whnf);apply sD;(focus(try intro hc;have hc0:=hc;(try simp only[aA]at hc);try refine aE ?_);first|exact gx h2|exact gx h3|exact gx h4|(refine gx (h5 (by omega))<;>exact pre)|exact zKy|(exact jR hx rfl)|(exact jR (hq (by omega)).1 (by omega))|exact aC)|(first|apply dG|apply kB);kernel_rfl|apply rR|apply rE|apply rH| (apply cD<;>intro hb<;>(try simp only[aA]at hb)<;>try exact aM))
    all_goals try exact false
    ·rw [if_pos (by omega)] at hfe
     rw [hfe,if_pos (by decide)] at hv
     repeat' ((conv=>whnf);first|exact aI|with_reducible first|apply And.intro|apply oR|apply oN|apply dC)
     all_goals (conv=>whnf)
     exact aJ hv
    ·rw [if_neg (by omega),if_pos (by rw [(hq (by omega)).2.2,← hc];omega)] at hfe
     rw [hfe,if_pos (by decide)] at hv
     repeat' ((conv=>whnf);first|exact aI|with_reducible first|apply And.intro|apply oR|apply oN|apply dC)
     all_goals (conv=>whnf)
     exact aJ hv
    ·rw [if_neg (by omega),if_neg (hbf (by omega))] at hfe
     rw [hfe,if_pos (by omega)] at hv
     repeat' ((conv=>whnf);first|exact aI|with_reducible first|apply And.intro|apply oR|apply oN|apply dC)
     all_goals (conv=>whnf)
     exact aJ hv
    ·rw [if_neg (by omega),if_neg (hbf (by omega))] at hfe
     rw [hfe,if_neg (by omega)] at hv
     refine ⟨i+1,⟨by omega,by rw [qW hx];exact hv,fun p hp' => ?_⟩,by omega,?_⟩
     ·rw [qW hx] at hp'
      cases hp'
      unfold InF
      omega
     ·exact aV
theorem yS (k:Int) (rows:List (List D)) (p:Str) (vs:List (List D)) (lo hi:Int) (z:Bool) (hz:z=true↔k=0∧rows.length=0∧p = []∧vs.length=0∧lo=0∧hi=0):Sem Tryz.prog 155 [.agg [.int .i64 k,.sl 0 6 rows,.str p,.sl 0 1 vs,.int .i64 lo,.int .i64 hi]] (.bool z):=by
 refine si [1000157] func155 ?_
 repeat'((conv=>whnf);first|(try(first|apply eN|apply eI|apply eC);conv=>whnf);apply sD;(focus(try intro hc;have hc0:=hc;(try simp only[aA]at hc);try refine aE ?_);first|exact aC)|apply rR|apply rE|apply rH| (apply cD<;>intro hb<;>(try simp only[aA]at hb)<;>try exact aM))
 all_goals try exact false
 repeat' ((conv=>whnf);first|exact aI|with_reducible first|apply And.intro|apply oR|apply oN|apply dC)
 all_goals (conv=>whnf)
 refine aS ?_
 rw [Bool.eq_iff_iff,hz]
 simp only [Bool.and_eq_true,beq_iff_eq]
 constructor
 ·rintro ⟨⟨⟨⟨⟨h1,h2⟩,h3⟩,h4⟩,h5⟩,h6⟩
  exact ⟨h1,by omega,h3,by omega,h5,h6⟩
 ·rintro ⟨h1,h2,h3,h4,h5,h6⟩
  exact ⟨⟨⟨⟨⟨h1,by omega⟩,h3⟩,by omega⟩,h5⟩,h6⟩
theorem zHJ (k:Int) (ks:List Cond) (p:Str) (vs:List Str) (lo hi:Int):(Cond.mk k ks p vs lo hi).same zeroM=true↔k=0∧(ks.map Cond.row).length=0∧p = []∧(vs.map fun s => [D.str s]).length=0∧lo=0∧hi=0:=by
 unfold zeroM
 rw [Cond.same_mk]
 simp only [List.length_map,List.length_eq_zero_iff]
theorem oV (k:Int) (t:Str) (frows:List (List D)) (n o:Str) (ck:Int) (crows:List (List D)) (cp:Str) (cvs:List (List D)) (clo chi:Int) (rows:List (List D)) (z:Bool) (hz:z=true↔ck=0∧crows.length=0∧cp = []∧cvs.length=0∧clo=0∧chi=0) (h1:1≤k) (h3:k≤3):
  Sem Tryz.prog 111 [.agg [.int .i64 k,.str t,.sl 0 6 frows,.str n,.str o,.int .i64 ck,.sl 0 6 crows,.str cp,.sl 0 1 cvs,.int .i64 clo,.int .i64 chi,.sl 0 12 rows]] (.bool (!gZ k t frows.length n o z rows.length)):=by
 have h:=yS ck crows cp cvs clo chi z hz
 have hr:gZ k t frows.length n o z rows.length=if k=1 then n == [] && o == [] && z && decide (rows.length=0) else if k=2 then t == [] && decide (frows.length=0) && z else t == [] && decide (frows.length=0) && n == [] && o == []:=rfl
 generalize gZ k t frows.length n o z rows.length=r at hr ⊢
 clear hz
 refine si [1000157] func111 ?_
 repeat'((conv=>whnf);first|(try(first|apply eN|apply eI|apply eC);conv=>whnf);apply sD;(focus(try intro hc;have hc0:=hc;(try simp only[aA]at hc);try refine aE ?_);first|exact gx h|(refine gx (yS ?_ ?_ ?_ ?_ ?_ ?_ ?_ ?_)<;>exact pre)|(exact fun h2=>Bool.and_eq_true_iff.2 ⟨hc0,h2⟩)|exact aC)|(first|apply dG|apply kB);kernel_rfl|apply rR|apply rE|apply rH| (apply cD<;>intro hb<;>(try simp only[aA]at hb)<;>try exact aM))
 all_goals try exact false
 repeat' ((conv=>whnf);first|exact aI|with_reducible first|apply And.intro|apply oR|apply oN|apply dC)
 all_goals (conv=>whnf)
 refine aS ?_
 rw [hr]
 clear h hr
 have e1:decide (0 < (frows.length:Int)) = !decide (frows.length=0):=by cases frows<;>simp
 have e2:decide (0 < (rows.length:Int)) = !decide (rows.length=0):=by cases rows<;>simp
 rw [e1,e2]
 clear e1 e2
 show (_ && (!(t == []) || _) || _ && (!(n == []) || !(o == [])) || _ || _)=_
 generalize (t == [])=x1
 generalize (n == [])=x2
 generalize (o == [])=x3
 generalize decide (frows.length=0)=x4
 generalize decide (rows.length=0)=x5
 obtain rfl|rfl|rfl:k=1∨k=2∨k=3:=by omega
 all_goals (clear h1 h3;revert x1 x2 x3 x4 x5 z;decide)
theorem bN {l:List MStep} {i:Int} {j:Nat} {k:Int} {t:Str} {fs:List Fld} {n o:Str} {ck:Int} {cks:List Cond} {cp:Str} {cvs:List Str} {clo chi:Int} {ss:List MStep} (h:l[j]?=some (.mk k t fs n o (.mk ck cks cp cvs clo chi) ss)) (hi':i=j):0≤i∧(l.map MStep.row)[i.toNat]?=some [.int .i64 k,.str t,.sl 0 6 (fs.map Fld.row),.str n,.str o,.int .i64 ck,.sl 0 6 (cks.map Cond.row),.str cp,.sl 0 1 (cvs.map fun s => [.str s]),.int .i64 clo,.int .i64 chi,.sl 0 12 (ss.map MStep.row)]:=by
 subst hi'
 refine ⟨by omega,?_⟩
 rw [Int.toNat_natCast,List.getElem?_map,h,Option.map_some,MStep.row_mk]
def zGl (tbs:List Tb) (l:List MStep):Prop:=∀ d m:Int,0≤m→m≤300→0≤d→d≤1000→SemO Tryz.prog 35 (.obj [.sl 0 2 (tbs.map Tb.row),.int .i64 m]) [.sl 0 12 (l.map MStep.row),.int .i64 d] (.int .i64 (MStep.chks tbs l d m).2) (some (.obj [.sl 0 2 (tbs.map Tb.row),.int .i64 (MStep.chks tbs l d m).1]))
def zGi (tbs:List Tb) (s:MStep):Prop:=∀ d m:Int,0≤m→m≤300→0≤d→d≤1000→SemO Tryz.prog 69 (.obj [.sl 0 2 (tbs.map Tb.row),.int .i64 m]) [.agg s.row,.int .i64 d] (.int .i64 (s.chk tbs d m).2) (some (.obj [.sl 0 2 (tbs.map Tb.row),.int .i64 (s.chk tbs d m).1]))
theorem zCr (tbs:List Tb) (s:MStep) (h:zGi tbs s) (d m:Int) (h0:0≤m) (h1:m≤300) (h2:0≤d) (h3:d≤1000):SemO Tryz.prog 69 (.obj [.sl 0 2 (tbs.map Tb.row),.int .i64 m]) [.agg s.row,.int .i64 d] (.int .i64 (s.chk tbs d m).2) (some (.obj [.sl 0 2 (tbs.map Tb.row),.int .i64 (s.chk tbs d m).1])):=h d m h0 h1 h2 h3
theorem zC8 (tbs:List Tb) (l:List MStep) (h:zGl tbs l) (d m:Int) (h0:0≤m) (h1:m≤300) (h2:0≤d) (h3:d≤1000):SemO Tryz.prog 35 (.obj [.sl 0 2 (tbs.map Tb.row),.int .i64 m]) [.sl 0 12 (l.map MStep.row),.int .i64 d] (.int .i64 (MStep.chks tbs l d m).2) (some (.obj [.sl 0 2 (tbs.map Tb.row),.int .i64 (MStep.chks tbs l d m).1])):=h d m h0 h1 h2 h3
theorem zFK (tbs:List Tb) (l:List MStep) (h:∀ s ∈ l,zGi tbs s):zGl tbs l:=by
 intro d m0 hm0 hm3 hd0 hd1
 generalize hr:MStep.chks tbs l d m0=r
 refine sO [0,8,2000008,1000035,1000069,1000157] func35 ?_
 repeat'((conv=>whnf);first|(try(first|apply eN|apply eI|apply eC);conv=>whnf);apply sD;(focus first|exact bV)|((with_reducible apply CallO.go);(conv=>whnf);apply sD;(focus first|(apply aU (zCr _ _ _ _ _ _ _ _ _);all_goals exact eX)))|apply rR|apply rE|apply rH| (apply cD<;>intro hb<;>(try simp only[aA]at hb)<;>try exact aM))
 all_goals try exact false
 refine aL (M:=fun t=>gF t [0,8,2000008,1000035,1000069,1000157]) hT hM (fun x:Nat × Int => [(12,.int .i64 x.1),(0,.obj [.sl 0 2 (tbs.map Tb.row),.int .i64 x.2])]) (fun x=>x.1≤l.length∧m0+x.1≤x.2∧x.2≤300∧MStep.chks tbs (l.drop x.1) d x.2=r) (fun x=>l.length - x.1) ((0,m0)) ?_ ?_ ?_
 ·exact aV
 ·exact ⟨Nat.zero_le _,by dsimp only;omega,by dsimp only;omega,hr⟩
 ·rintro ⟨i,m⟩ ⟨hi,hm1,hm2,hv⟩
  dsimp only at hi hm1 hm2 hv ⊢
  cases hx:l[i]? with
  |none=>
   have hm:=List.getElem?_eq_none_iff.1 hx
   rw [List.drop_of_length_le hm,pU] at hv
   subst hv
   repeat'((conv=>whnf);first|(try(first|apply eN|apply eI|apply eC);conv=>whnf);apply sD;(focus first|exact bV)|((with_reducible apply CallO.go);(conv=>whnf);apply sD;(focus first|(apply aU (zCr _ _ _ _ _ _ _ _ _);all_goals exact eX)))|apply rR|apply rE|apply rH| (apply cD<;>intro hb<;>(try simp only[aA]at hb)<;>try exact aM))
   all_goals try exact false
   exact aT
  |some x=>
   have hlt:=(bC hx)
   obtain ⟨hb1,hb2⟩:=sV tbs x d m hm2
   have ih':=h x (aK hx) d m (by omega) hm2 hd0 hd1
   rw [oE hx] at hv
   generalize x.chk tbs d m=y at hv ih' hb1 hb2
   obtain ⟨m2,e2⟩:=y
   obtain ⟨k,t,fs,n,o,⟨ck,cks,cp,cvs,clo,chi⟩,ss⟩:=x
   rw [MStep.row_mk] at ih'
   dsimp only at hv ih' hb1 hb2
   repeat'((conv=>whnf);first|(try(first|apply eN|apply eI|apply eC);conv=>whnf);apply sD;(focus first|(exact bN hx rfl)|exact bV)|((with_reducible apply CallO.go);(conv=>whnf);apply sD;(focus first|(apply aU (ih');all_goals exact eX)))|apply rR|apply rE|apply rH| (apply cD<;>intro hb<;>(try simp only[aA]at hb)<;>try exact aM))
   all_goals try exact false
   ·rw [if_pos (by omega)] at hv
    subst hv
    exact aT
   ·rw [if_neg (by omega)] at hv
    refine ⟨(i+1,m2),⟨by dsimp only;omega,by dsimp only;omega,by dsimp only;omega,hv⟩,by dsimp only;omega,?_⟩
    exact aV
theorem zKX (tbs:List Tb) (ht:aW tbs=0) (k:Int) (t:Str) (fs:List Fld) (n o:Str) (c:Cond) (ss:List MStep) (hst:jI t) (hsn:jI n) (hs:zGl tbs ss):zGi tbs (.mk k t fs n o c ss):=by
 intro d m hm0 hm3 hd0 hd1
 obtain ⟨ck,cks,cp,cvs,clo,chi⟩:=c
 have h1:=bJ k 1 3
 have h2:=fun h1 h3=>oV k t (fs.map Fld.row) n o ck (cks.map Cond.row) cp (cvs.map fun s => [.str s]) clo chi (ss.map MStep.row) _ (zHJ ck cks cp cvs clo chi) h1 h3
 have h3:=lU tbs ht k t hst fs n o ck (cks.map Cond.row) cp (cvs.map fun s => [.str s]) clo chi (ss.map MStep.row)
 have h4:=fQ n hsn
 have h5:=gD o
 have h6:=qP (.mk ck cks cp cvs clo chi)
 have h7:=fun (h:m+1≤300∧d≤6)=>hs (d+1) (m+1) (by omega) (by omega) (by omega) (by omega)
 rw [Cond.row_mk] at h6
 rw [List.length_map,List.length_map] at h2
 have he:dW tbs k t fs n o (.mk ck cks cp cvs clo chi) ss.length=if k < 1∨3 < k then 4 else if gZ k t fs.length n o ((Cond.mk ck cks cp cvs clo chi).same zeroM) ss.length=false then 3
  else if k=1 then lK tbs t fs else if k=2∧aR n=false then 5 else if k=2∧bH o ≠ 0 then bH o else if k=3∧(Cond.mk ck cks cp cvs clo chi).err ≠ 0 then (Cond.mk ck cks cp cvs clo chi).err else if ss.length=0 then 9 else 0:=rfl
 have hns:gZ k t fs.length n o ((Cond.mk ck cks cp cvs clo chi).same zeroM) ss.length=true→k=1→ss = []:=fun h h1=>by
  unfold gZ at h
  rw [if_pos h1] at h
  simp only [Bool.and_eq_true,decide_eq_true_eq] at h
  exact List.eq_nil_of_length_eq_zero h.2
 rw [sU,MStep.row_mk]
 generalize dW tbs k t fs n o (.mk ck cks cp cvs clo chi) ss.length=e at he ⊢
 generalize gZ k t fs.length n o ((Cond.mk ck cks cp cvs clo chi).same zeroM) ss.length=b1 at he h2 hns
 generalize lK tbs t fs=e1 at he h3
 generalize aR n=b2 at he h4
 generalize bH o=e2 at he h5
 generalize (Cond.mk ck cks cp cvs clo chi).err=e3 at he h6
 generalize hr:(if 300 < m+1∨6 < d then (m+1,(2:Int)) else if e ≠ 0 then (m+1,e) else MStep.chks tbs ss (d+1) (m+1))=r
 have hll:(ss.map MStep.row).length=ss.length:=List.length_map _
 refine sO [0,1000035,1000069,1000157] func69 ?_
 repeat'((conv=>whnf);first|(try(first|apply eN|apply eI|apply eC);conv=>whnf);apply sD;(focus(try intro hc;have hc0:=hc;(try simp only[aA]at hc);try refine aE ?_);first|exact gx h1|(refine gx (h2 (by omega) (by omega))<;>exact pre)|exact gx h3|exact gx h4|exact gx h5|exact gx h6|(refine gx (bJ ?_ ?_ ?_)<;>exact pre)|(refine gx (fK ?_ ?_)<;>exact pre)|(refine gx (oV ?_ ?_ ?_ ?_ ?_ ?_ ?_ ?_ ?_ ?_ ?_ ?_ ?_ ?_ ?_ ?_)<;>exact pre)|(refine gx (lU ?_ ?_ ?_ ?_ ?_ ?_ ?_ ?_ ?_ ?_ ?_ ?_ ?_ ?_ ?_)<;>exact pre)|(refine gx (fQ ?_ ?_)<;>exact pre)|(refine gx (gD ?_)<;>exact pre)|(refine gx (qP ?_)<;>exact pre)|exact aC)|((with_reducible apply CallO.go);(conv=>whnf);apply sD;(focus first|(apply aU (h7 (by omega));all_goals exact eX)))|(first|apply dG|apply kB);kernel_rfl|apply rR|apply rE|apply rH| (apply cD<;>intro hb<;>(try simp only[aA]at hb)<;>try exact aM))
 all_goals try exact false
 ·rw [if_pos (by omega)] at hr
  subst hr
  exact aT
 ·rw [if_pos (by omega)] at he
  rw [if_neg (by omega),if_pos (by omega)] at hr
  subst hr he
  exact aT
 ·rw [if_neg (by omega),if_pos hb] at he
  rw [if_neg (by omega),if_pos (by omega)] at hr
  subst hr he
  exact aT
 ·have hss:=hns (by assumption) (by omega)
  subst hss
  rw [if_neg (by omega),if_neg (by simp_all),if_pos (by omega)] at he
  rw [pU] at hr
  have hr2:r=(m+1,e1):=by
   rw [if_neg (by omega)] at hr
   rw [← hr,he]
   split
   ·rfl
   ·rename_i h0
    rw [show e1=0 by omega]
  subst hr2
  exact aT
 ·rw [if_neg (by omega),if_neg (by simp_all),if_neg (by omega),if_pos (by simp_all)] at he
  rw [if_neg (by omega),if_pos (by omega)] at hr
  subst hr he
  exact aT
 ·rw [if_neg (by omega),if_neg (by simp_all),if_neg (by omega),if_neg (by simp_all),if_pos (by simp_all)] at he
  rw [if_neg (by omega),if_pos (by omega)] at hr
  subst hr he
  exact aT
 ·rw [if_neg (by omega),if_neg (by simp_all),if_neg (by omega),if_neg (by simp_all),if_neg (by simp_all),if_neg (by omega),if_pos (by omega)] at he
  rw [if_neg (by omega),if_pos (by omega)] at hr
  subst hr he
  exact aT
 ·rw [if_neg (by omega),if_neg (by simp_all),if_neg (by omega),if_neg (by simp_all),if_neg (by simp_all),if_neg (by omega),if_neg (by omega)] at he
  rw [if_neg (by omega),if_neg (by omega)] at hr
  subst hr
  exact aT
 ·rw [if_neg (by omega),if_neg (by simp_all),if_neg (by omega),if_neg (by omega),if_neg (by omega),if_pos (by omega)] at he
  rw [if_neg (by omega),if_pos (by omega)] at hr
  subst hr he
  exact aT
 ·rw [if_neg (by omega),if_neg (by simp_all),if_neg (by omega),if_neg (by omega),if_neg (by omega),if_neg (by omega),if_pos (by omega)] at he
  rw [if_neg (by omega),if_pos (by omega)] at hr
  subst hr he
  exact aT
 ·rw [if_neg (by omega),if_neg (by simp_all),if_neg (by omega),if_neg (by omega),if_neg (by omega),if_neg (by omega),if_neg (by omega)] at he
  rw [if_neg (by omega),if_neg (by omega)] at hr
  subst hr
  exact aT
theorem zDP {α:Type} {a b:List α} {i:Nat} {x y:α} (hx:a[i]?=some x) (hy:b[i]?=some y):a.drop i=b.drop i↔x=y∧a.drop (i+1)=b.drop (i+1):=by
 rw [List.drop_eq_getElem_cons (bC hx),(List.getElem?_eq_some_iff.1 hx).2,List.drop_eq_getElem_cons (bC hy),(List.getElem?_eq_some_iff.1 hy).2,List.cons_eq_cons]
theorem eW (a b:Tb) (ha:a.rows.length≤1000000):Sem Tryz.prog 20 [.agg a.row,.agg b.row] (.bool (decide (a.name=b.name∧a.rows=b.rows))):=by
 obtain ⟨an,ar⟩:=a
 obtain ⟨bn,br⟩:=b
 dsimp only at ha ⊢
 have hla:(ar.map rU).length=ar.length:=List.length_map _
 have hlb:(br.map rU).length=br.length:=List.length_map _
 generalize hr:decide (an=bn∧ar=br)=r
 unfold Tb.row
 dsimp only
 refine si [1000035,1000069,1000157] func20 ?_
 repeat'((conv=>whnf);first|(try(first|apply eN|apply eI|apply eC);conv=>whnf);apply sD;(focus(try intro hc;have hc0:=hc;(try simp only[aA]at hc);try refine aE ?_);first|exact aC)|(first|apply dG|apply kB);kernel_rfl|apply rR|apply rE|apply rH| (apply cD<;>intro hb<;>(try simp only[aA]at hb)<;>try exact aM))
 all_goals try exact false
 ·have:r=false:=by
   rw [← hr,decide_eq_false_iff_not]
   rintro ⟨h1,h2⟩
   rcases hb with h|h
   ·exact h h1
   ·rw [h2] at h;exact h rfl
  subst this
  exact aT
 ·have hnn:an=bn:=hb.1
  have hll:ar.length=br.length:=by omega
  refine aL (M:=fun t=>gF t [1000035,1000069,1000157]) hT hM (fun i:Nat => [(5,.int .i64 i)]) (fun i=>i≤ar.length∧decide (ar.drop i=br.drop i)=r) (fun i=>ar.length - i) (0) ?_ ?_ ?_
  ·exact aV
  ·exact ⟨Nat.zero_le _,by rw [← hr];simp [hnn]⟩
  ·rintro i ⟨hi,hv⟩
   cases hx:ar[i]? with
   |none=>
    have hm:=List.getElem?_eq_none_iff.1 hx
    rw [List.drop_of_length_le hm,List.drop_of_length_le (by omega)] at hv
    have:r=true:=by rw [← hv];rfl
    subst this
    repeat'((conv=>whnf);first|(try(first|apply eN|apply eI|apply eC);conv=>whnf);apply sD;(focus(try intro hc;have hc0:=hc;(try simp only[aA]at hc);try refine aE ?_);first|exact aC)|(first|apply dG|apply kB);kernel_rfl|apply rR|apply rE|apply rH| (apply cD<;>intro hb<;>(try simp only[aA]at hb)<;>try exact aM))
    all_goals try exact false
    exact aT
   |some x=>
    have hlt:=(bC hx)
    obtain ⟨y,hy⟩:∃ y,br[i]?=some y:=⟨br[i],List.getElem?_eq_getElem (by omega)⟩
    rw [show decide (ar.drop i=br.drop i)=decide (x=y∧ar.drop (i+1)=br.drop (i+1)) from decide_eq_decide.2 (zDP hx hy)] at hv
    repeat'((conv=>whnf);first|(try(first|apply eN|apply eI|apply eC);conv=>whnf);apply sD;(focus(try intro hc;have hc0:=hc;(try simp only[aA]at hc);try refine aE ?_);first|(exact aP hx rfl)|(exact aP hy rfl)|exact aC)|(first|apply dG|apply kB);kernel_rfl|apply rR|apply rE|apply rH| (apply cD<;>intro hb<;>(try simp only[aA]at hb)<;>try exact aM))
    all_goals try exact false
    ·have:r=false:=by
      rw [← hv,decide_eq_false_iff_not]
      rintro ⟨h1,h2⟩
      subst h1
      rcases hb with h|h<;>exact h rfl
     subst this
     exact aT
    ·refine ⟨i+1,⟨by omega,?_⟩,by omega,?_⟩
     ·rw [← hv,decide_eq_decide]
      exact ⟨fun h=>⟨Prod.ext hb.1 hb.2,h⟩,fun h=>h.2⟩
     ·exact aV
def rS (l:List MStep):Prop:=Sem Tryz.prog 16 [.sl 0 12 (l.map MStep.row)] (.bool (cV [] l))
theorem zA2 (l:List MStep) (h:rS l):Sem Tryz.prog 16 [.sl 0 12 (l.map MStep.row)] (.bool (cV [] l)):=h
theorem zGH {l:List MStep} {i:Nat} {s:MStep} (h:l[i]?=some s):cV (l.take i) (l.drop i)=(!(decide (s.kind=3) || (decide (s.kind=2) && s.over == [])) && (!((l.take i).any fun x=>sC x s) && (cV [] s.kids && cV (l.take (i+1)) (l.drop (i+1))))):=by
 obtain ⟨hi,rfl⟩:=List.getElem?_eq_some_iff.1 h
 rw [List.drop_eq_getElem_cons hi]
 have ht:l.take (i+1)=l.take i ++ [l[i]]:=by rw [List.take_add_one,List.getElem?_eq_getElem hi];rfl
 rw [ht]
 cases l[i] with
 |mk k t fs n o c ss=>rw [vA];rfl
theorem zN5 {l:List MStep} {i:Nat} {x:MStep} (q:MStep→Bool) (h:l[i]?=some x) (n:Nat) (hn:i < n):((l.take n).drop i).any q=(q x || ((l.take n).drop (i+1)).any q):=by
 have h2:(l.take n)[i]?=some x:=by rw [List.getElem?_take,if_pos hn];exact h
 rw [List.drop_eq_getElem_cons (bC h2),(List.getElem?_eq_some_iff.1 h2).2,List.any_cons]
theorem zDS{p:Prop}(h:p:=by first|(refine gx (zA2 ?_ ?_)<;>exact pre)):p:=h
theorem zCJ (l:List MStep) (h:∀ s ∈ l,rS s.kids):rS l:=by
 unfold rS
 generalize hr:cV [] l=r
 refine gU 0 rfl rfl fun hl => ?_
 rw [List.length_map] at hl
 have hll:(l.map MStep.row).length=l.length:=List.length_map _
 refine si [1000035,1000069,1000157] func16 ?_
 repeat'((conv=>whnf);first|(try(first|apply eN|apply eI|apply eC);conv=>whnf);apply sD;(focus(try intro hc;have hc0:=hc;(try simp only[aA]at hc);try refine aE ?_);first|exact zDS|exact aC)|(first|apply dG|apply kB);kernel_rfl|apply rR|apply rE|apply rH| (apply cD<;>intro hb<;>(try simp only[aA]at hb)<;>try exact aM))
 all_goals try exact false
 refine aL (M:=fun t=>gF t [1000035,1000069,1000157]) hT hM (fun i:Nat => [(3,.int .i64 i)]) (fun i=>i≤l.length∧cV (l.take i) (l.drop i)=r) (fun i=>l.length - i) (0) ?_ ?_ ?_
 ·exact aV
 ·exact ⟨Nat.zero_le _,hr⟩
 ·rintro i ⟨hi,hv⟩
  cases hx:l[i]? with
  |none=>
   have hm:=List.getElem?_eq_none_iff.1 hx
   rw [List.drop_of_length_le hm,qY] at hv
   subst hv
   repeat'((conv=>whnf);first|(try(first|apply eN|apply eI|apply eC);conv=>whnf);apply sD;(focus(try intro hc;have hc0:=hc;(try simp only[aA]at hc);try refine aE ?_);first|exact zDS|exact aC)|(first|apply dG|apply kB);kernel_rfl|apply rR|apply rE|apply rH| (apply cD<;>intro hb<;>(try simp only[aA]at hb)<;>try exact aM))
   all_goals try exact false
   exact aT
  |some s=>
   have hlt:=(bC hx)
   have ih:=h s (aK hx)
   unfold rS at ih
   rw [zGH hx] at hv
   generalize hq:cV [] s.kids=q at hv ih
   obtain ⟨k,t,fs,n,o,⟨ck,cks,cp,cvs,clo,chi⟩,ss⟩:=s
   have hkk:∀ c,(MStep.mk k t fs n o c ss).kind=k∧(MStep.mk k t fs n o c ss).over=o∧(MStep.mk k t fs n o c ss).kids=ss:=fun c=>⟨rfl,rfl,rfl⟩
   rw [(hkk _).1,(hkk _).2.1] at hv
   rw [(hkk _).2.2] at ih
   repeat'((conv=>whnf);first|(try(first|apply eN|apply eI|apply eC);conv=>whnf);apply sD;(focus(try intro hc;have hc0:=hc;(try simp only[aA]at hc);try refine aE ?_);first|exact zDS|(exact bN hx rfl)|exact aC)|(first|apply dG|apply kB);kernel_rfl|apply rR|apply rE|apply rH| (apply cD<;>intro hb<;>(try simp only[aA]at hb)<;>try exact aM))
   all_goals try exact false
   ·have hc:(decide (k=3) || (decide (k=2) && o == []))=true:=by rcases hb with h|⟨h,h'⟩<;>simp [*]
    rw [hc] at hv
    have hv:false=r:=hv
    subst hv
    exact aT
   ·have hc:(decide (k=3) || (decide (k=2) && o == []))=false:=by
     obtain ⟨h1,h2⟩:=hb
     rcases h2 with h|h<;>simp [*]
    rw [hc] at hv
    simp only [Bool.not_false,Bool.true_and] at hv
    generalize hrest:cV (l.take (i+1)) (l.drop (i+1))=rest at hv
    clear hq hc hr
    refine aL (M:=fun t=>gF t [1000035,1000069,1000157]) hT hM (fun j:Nat => [(4,.int .i64 j)]) (fun j=>j≤i∧(!(((l.take i).drop j).any fun x=>sC x (MStep.mk k t fs n o (Cond.mk ck cks cp cvs clo chi) ss)) && (q && rest))=r) (fun j=>i - j) (0) ?_ ?_ ?_
    ·exact aV
    ·exact ⟨Nat.zero_le _,hv⟩
    ·rintro j ⟨hj,hw⟩
     by_cases hji:j < i
     ·obtain ⟨y,hy⟩:∃ y,l[j]?=some y:=⟨l[j],List.getElem?_eq_getElem (by omega)⟩
      rw [zN5 _ hy i hji] at hw
      obtain ⟨k2,t2,fs2,n2,o2,⟨ck2,cks2,cp2,cvs2,clo2,chi2⟩,ss2⟩:=y
      have hs3:sC (MStep.mk k2 t2 fs2 n2 o2 (.mk ck2 cks2 cp2 cvs2 clo2 chi2) ss2) (MStep.mk k t fs n o (.mk ck cks cp cvs clo chi) ss)=(k2 == k && t2 == t && n2 == n):=rfl
      rw [hs3] at hw
      repeat'((conv=>whnf);first|(try(first|apply eN|apply eI|apply eC);conv=>whnf);apply sD;(focus(try intro hc;have hc0:=hc;(try simp only[aA]at hc);try refine aE ?_);first|exact zDS|(exact bN hx rfl)|(exact bN hy rfl)|exact aC)|(first|apply dG|apply kB);kernel_rfl|apply rR|apply rE|apply rH| (apply cD<;>intro hb<;>(try simp only[aA]at hb)<;>try exact aM))
      all_goals try exact false
      ·have hc:(k2 == k && t2 == t && n2 == n)=true:=by simp [hb]
       rw [hc] at hw
       have hw:false=r:=hw
       subst hw
       exact aT
      ·have hc:(k2 == k && t2 == t && n2 == n)=false:=by
        rw [Bool.eq_false_iff]
        intro h
        simp only [Bool.and_eq_true,beq_iff_eq] at h
        obtain ⟨⟨h1,h2⟩,h3⟩:=h
        rcases hb with hb|hb<;>try (rcases hb with hb|hb) 
        all_goals contradiction
       rw [hc,Bool.false_or] at hw
       refine ⟨j+1,⟨by omega,hw⟩,by omega,?_⟩
       exact aV
     ·have hj':j=i:=by omega
      subst hj'
      rw [List.drop_of_length_le (by rw [List.length_take];omega)] at hw
      have hw:(q && rest)=r:=hw
      repeat'((conv=>whnf);first|(try(first|apply eN|apply eI|apply eC);conv=>whnf);apply sD;(focus(try intro hc;have hc0:=hc;(try simp only[aA]at hc);try refine aE ?_);first|exact gx ih|exact zDS|(exact bN hx rfl)|exact aC)|(first|apply dG|apply kB);kernel_rfl|apply rR|apply rE|apply rH| (apply cD<;>intro hb<;>(try simp only[aA]at hb)<;>try exact aM))
      all_goals try exact false
      ·have hw:false=r:=by rw [← hw,hb];rfl
       subst hw
       exact aT
      ·rw [hb,Bool.true_and] at hw
       refine ⟨j+1,⟨by omega,by rw [← hw];exact hrest⟩,by omega,?_⟩
       exact aV
open Go.Lib
theorem zDY (A:Addr) (c:Nat) (w:World):Calls Tryz.prog 59 #[.slice (some A) 0 c] w fun x w'=>∃ v',x=.returned v'∧w'.ownsRow w.heap.size 71 2 v' 0 []∧v' ≠ .slice none 0 0∧Below w.heap.size w w':=by
 go_enter func59,ntmps59
 go_wp2
 rw [(lW underlying49).1]
 go_wp2
 go_ret
 refine ⟨.slice (some ⟨w.heap.size,0,none⟩) 0 0,rfl,⟨rfl,.inr ⟨w.heap.size,0,#[],rfl,Nat.le_refl _,?_,Nat.le_refl _,Nat.zero_le _,rfl,rfl⟩⟩,(by intro h;cases h),Ext.alloc _ _⟩
 show (w.heap.push _)[w.heap.size]?=_
 rw [Array.getElem?_push,if_pos rfl]
theorem zPE:(Tryz.prog.info? 71).any (fun i=>i.size == 2 && i.bytes == 32 && match i.zero with|some z=>z.cells.size == 2|none=>false)=true:=by kernel_rfl
theorem zP (l:List (Str × Str)) (hl:l.length≤1000000):Sem Tryz.prog 59 [.sl 0 2 (l.map rU)] (.sl 2 2 (l.map rU)):=by
 refine zHu (e:=71) (fun r hr=>by obtain ⟨c,_,rfl⟩:=List.mem_map.1 hr;rfl) (fun w=>Tryz.slices_Clone_nil 0 0 w) zDY fun b o c news w hn hc h1 _ => ?_
 have hi:=zPE
 rw [Option.any_eq_true] at hi
 obtain ⟨i0,hi0,hi1⟩:=hi
 simp only [Bool.and_eq_true,beq_iff_eq] at hi1
 obtain ⟨⟨h6,h88⟩,hz⟩:=hi1
 cases hz0:i0.zero with
 |none=>rw [hz0] at hz;cases hz
 |some z=>
  rw [hz0] at hz
  rw [List.length_map] at hn ⊢
  exact Tryz.slices_Clone i0 z 2 32 hi0 hz0 h6 h88 (by simpa using hz) (by decide) sizeOf71 b o l.length c news w hn (by unfold maxLen;omega) (by omega) hc h1
theorem zO (t:Tb) (hl:t.rows.length≤1000000):Sem Tryz.prog 24 [.agg t.row] (.agg t.row):=by
 have h:=zP t.rows hl
 unfold Tb.row
 refine si [1,4000001,2,1000035,1000069,1000157] func24 ?_
 repeat'((conv=>whnf);first|(try(first|apply eN|apply eI|apply eC);conv=>whnf);apply sD;(focus first|exact gx h|(refine gx (zP ?_ ?_)<;>exact pre)|exact bV)|apply rR|apply rE|apply rH| (apply cD<;>intro hb<;>(try simp only[aA]at hb)<;>try exact aM))
 all_goals try exact false
 exact aT
theorem zE8 (a b:List (Str × Str)) (hl:a.length≤1000000) (hlb:b.length≤1000000):Sem Tryz.prog 38 [.sl 0 2 (a.map rU),.sl 0 2 (b.map rU)] (.bool (decide (a=b))):=by
 have hla:(a.map rU).length=a.length:=List.length_map _
 have hlb2:(b.map rU).length=b.length:=List.length_map _
 generalize hr:decide (a=b)=r
 refine si [1000035,1000069,1000157] func38 ?_
 repeat'((conv=>whnf);first|(try(first|apply eN|apply eI|apply eC);conv=>whnf);apply sD;(focus first|exact bV)|(first|apply dG|apply kB);kernel_rfl|apply rR|apply rE|apply rH| (apply cD<;>intro hb<;>(try simp only[aA]at hb)<;>try exact aM))
 all_goals try exact false
 ·have:r=false:=by
   rw [← hr,decide_eq_false_iff_not]
   intro h
   exact hb (by rw [h])
  subst this
  exact aT
 ·have hll:a.length=b.length:=by omega
  refine aL (M:=fun t=>gF t [1000035,1000069,1000157]) hT hM (fun i:Nat => [(13,.int .i64 i)]) (fun i=>i≤a.length∧decide (a.drop i=b.drop i)=r) (fun i=>a.length - i) (0) ?_ ?_ ?_
  ·exact aV
  ·exact ⟨Nat.zero_le _,hr⟩
  ·rintro i ⟨hi,hv⟩
   cases hx:a[i]? with
   |none=>
    have hm:=List.getElem?_eq_none_iff.1 hx
    rw [List.drop_of_length_le hm,List.drop_of_length_le (by omega)] at hv
    have:r=true:=by rw [← hv];rfl
    subst this
    repeat'((conv=>whnf);first|(try(first|apply eN|apply eI|apply eC);conv=>whnf);apply sD;(focus first|exact bV)|(first|apply dG|apply kB);kernel_rfl|apply rR|apply rE|apply rH| (apply cD<;>intro hb<;>(try simp only[aA]at hb)<;>try exact aM))
    all_goals try exact false
    exact aT
   |some x=>
    have hlt:=(bC hx)
    obtain ⟨y,hy⟩:∃ y,b[i]?=some y:=⟨b[i],List.getElem?_eq_getElem (by omega)⟩
    rw [show decide (a.drop i=b.drop i)=decide (x=y∧a.drop (i+1)=b.drop (i+1)) from decide_eq_decide.2 (zDP hx hy)] at hv
    repeat'((conv=>whnf);first|(try(first|apply eN|apply eI|apply eC);conv=>whnf);apply sD;(focus first|(exact aP hx rfl)|(exact aP hy rfl)|exact bV)|(first|apply dG|apply kB);kernel_rfl|apply rR|apply rE|apply rH| (apply cD<;>intro hb<;>(try simp only[aA]at hb)<;>try exact aM))
    all_goals try exact false
    ·have:r=false:=by
      rw [← hv,decide_eq_false_iff_not]
      rintro ⟨h1,_⟩
      subst h1
      rcases hb with h|h<;>exact h rfl
     subst this
     exact aT
    ·refine ⟨i+1,⟨by omega,?_⟩,by omega,?_⟩
     ·rw [← hv,decide_eq_decide]
      exact ⟨fun h=>⟨Prod.ext hb.1 hb.2,h⟩,fun h=>h.2⟩
     ·exact aV
end Go.Proofs.YtnjgoldinaffgaaGreatDoor
namespace Go.Proofs.YtnjgoldinaffgaaGreatDoor
open _root_.Go.Proofs.Tryz
set_option linter.unusedSimpArgs false
set_option linter.unusedVariables false
open Go.RowKit
set_option maxRecDepth 100000
set_option maxHeartbeats 40000000
def jP (seen:List Str):List (Value × Value):=seen.map fun s=>(.string ⟨s.toArray⟩,.bool true)
theorem uC (a b:Str):gW (.string ⟨a.toArray⟩) (.string ⟨b.toArray⟩)=(a == b):=by
 unfold gW veq
 simp
theorem zDK (a:Str):∀ seen:List Str,gA (.string ⟨a.toArray⟩) (jP seen)=if a ∈ seen then some (.bool true) else none
 |[]=>rfl
 |b::r=>by
  have h:=uC a b
  have ih:=zDK a r
  unfold jP at ih ⊢
  rw [List.map_cons,gA,h]
  by_cases hab:a=b
  ·simp [hab]
  ·have:(a == b)=false:=by simpa using hab
   rw [this]
   simp only [ih,List.mem_cons,hab,false_or]
theorem zIO (a:Str) (seen:List Str):zA7 (jP seen) (.string ⟨a.toArray⟩) (.bool false)=.bool (seen.contains a):=by
 unfold zA7
 rw [zDK]
 by_cases h:a ∈ seen<;>simp [h,zLn,nH]
theorem zBJ (a:Str):∀ {seen:List Str},a ∉ seen→mT (.string ⟨a.toArray⟩) (.bool true) (jP seen)=jP (seen ++ [a])
 |[],_=>rfl
 |b::r,h=>by
  have hk:=uC a b
  simp only [List.mem_cons,not_or] at h
  have ih:=zBJ a h.2
  unfold jP at ih ⊢
  have:(a == b)=false:=by simpa using h.1
  rw [List.cons_append,List.map_cons,List.map_cons,mT,hk,this]
  simp only [ih]
theorem zB {tbs:List Tb} {s:MStep} (h:s.Good tbs):s.tag.length≤1000∧s.name.length≤1000:=by
 obtain ⟨k,t,fs,n,o,c,ss⟩:=s
 have h1:=(cQ h).1
 have h0:=rY h1
 show t.length≤1000∧n.length≤1000
 have:=h0.k1
 have:=h0.k3
 by_cases k1:k=1
 ·obtain ⟨hn,_,_,_,ht,_⟩:=h0.seg k1
  subst hn
  unfold cA at ht
  simp only [Bool.and_eq_true,decide_eq_true_eq] at ht
  exact ⟨by omega,by simp⟩
 ·by_cases k2:k=2
  ·obtain ⟨ht,_,_,hn,_⟩:=h0.grp k2
   subst ht
   refine ⟨by simp,?_⟩
   cases n with
   |nil=>simp
   |cons a b=>
    simp only [aR,Bool.and_eq_true,decide_eq_true_eq] at hn
    simp only [List.length_cons]
    omega
  ·have k3:k=3:=by omega
   subst k3
   unfold dW at h1
   rw [if_neg (by decide)] at h1
   split at h1
   ·cases h1
   ·rename_i hf
    unfold gZ at hf
    rw [if_neg (by decide),if_neg (by decide)] at hf
    simp at hf
    have h5:=hf.1
    have h6:=hf.2.2.1
    simp [h5,h6]
theorem mX (s:MStep) (h1:s.tag.length≤1000) (h2:s.name.length≤1000):Sem Tryz.prog 36 [.agg s.row] (.str s.key):=by
 obtain ⟨k,t,fs,n,o,⟨ck,cks,cp,cvs,clo,chi⟩,ss⟩:=s
 have he:(MStep.mk k t fs n o (.mk ck cks cp cvs clo chi) ss).key=t++47::n:=rfl
 have h1:t.length≤1000:=h1
 have h2:n.length≤1000:=h2
 have hb:({ data := #[47] }:ByteArray).data.toList.length=1:=rfl
 have hb2:(t++({ data := #[47] }:ByteArray).data.toList).length=t.length+1:=by simp
 rw [he,MStep.row_mk]
 refine si [1000035,1000069,1000157] func36 ?_
 repeat'((conv=>whnf);first|(try(first|apply eN|apply eI);conv=>whnf);apply sD;(focus first|exact bV)|apply rR|apply rE|apply rH| (apply cD<;>intro hb<;>(try simp only[aA]at hb)<;>try exact aM))
 all_goals try exact false
 repeat' ((conv=>whnf);first|exact aI|with_reducible first|apply And.intro|apply oR|apply oN|apply dC)
 all_goals (conv=>whnf)
 have hk:t ++ [47]++n=t++47::n:=by rw [List.append_assoc];rfl
 exact zKZ hk
def uM (l:List MStep):Prop:=Sem Tryz.prog 12 [.sl 0 12 (l.map MStep.row)] (.bool (dL [] l))
theorem zGI {l:List MStep} {i:Nat} {s:MStep} (h:l[i]?=some s) (seen:List Str):dL seen (l.drop i)=(!(decide (s.kind=3) || seen.contains s.key || (decide (s.kind=2) && (s.over == [] || !dL [] s.kids))) && dL (seen ++ [s.key]) (l.drop (i+1))):=by
 obtain ⟨hi,rfl⟩:=List.getElem?_eq_some_iff.1 h
 rw [List.drop_eq_getElem_cons hi]
 cases l[i] with
 |mk k t fs n o c ss=>rw [vC];rfl
theorem yT (l:List MStep) (hs:∀ s ∈ l,s.tag.length≤1000∧s.name.length≤1000) (h:∀ s ∈ l,uM s.kids):uM l:=by
  unfold uM
  generalize hr:dL [] l=r
  refine gU 0 rfl rfl fun hl => ?_
  rw [List.length_map] at hl
  have hll:(l.map MStep.row).length=l.length:=List.length_map _
  refine si [5,2000005,6000016,6000022,6000026,6000030,1000035,1000069,1000157] func12 ?_
  repeat'((conv=>whnf);first|(try(first|apply eN|apply eI|apply eL|apply eC);conv=>whnf);apply sD;(focus(try intro hc;have hc0:=hc;(try simp only[aA]at hc);try refine aE ?_);first|(refine gx (mX ?_ ?_ ?_)<;>exact pre)|exact aC)|apply rR|apply rE|apply rH| (apply cD<;>intro hb<;>(try simp only[aA]at hb)<;>try exact aM))
  all_goals try exact false
  refine aL (M:=fun t=>gF t [5,2000005,6000016,6000022,6000026,6000030,1000035,1000069,1000157]) hT hM (fun x:Nat × List Str => [(9,.int .i64 x.1),(3,.mp .str (jP x.2))]) (fun x=>x.1≤l.length∧dL x.2 (l.drop x.1)=r) (fun x=>l.length - x.1) ((0,[])) ?_ ?_ ?_
  · exact aV
  · exact ⟨Nat.zero_le _,hr⟩
  · rintro ⟨i,seen⟩ ⟨hi,hv⟩
    dsimp only at hi hv ⊢
    cases hx:l[i]? with
    |none=>
      have hm:=List.getElem?_eq_none_iff.1 hx
      rw [List.drop_of_length_le hm,yA] at hv
      subst hv
      repeat'((conv=>whnf);first|(try(first|apply eN|apply eI|apply eL|apply eC);conv=>whnf);apply sD;(focus(try intro hc;have hc0:=hc;(try simp only[aA]at hc);try refine aE ?_);first|(refine gx (mX ?_ ?_ ?_)<;>exact pre)|exact aC)|apply rR|apply rE|apply rH| (apply cD<;>intro hb<;>(try simp only[aA]at hb)<;>try exact aM))
      all_goals try exact false
      exact aT
    |some s=>
      have hlt:=(bC hx)
      have ih:=h s (aK hx)
      unfold uM at ih
      have hnm:=mX s (hs s (aK hx)).1 (hs s (aK hx)).2
      rw [zGI hx] at hv
      generalize dL [] s.kids=q at hv ih
      have hlk:=zIO s.key seen
      have hpt:=fun h=>zBJ s.key (seen:=seen) h
      generalize s.key=kk at hv hnm hlk hpt
      obtain ⟨k,t,fs,n,o,⟨ck,cks,cp,cvs,clo,chi⟩,ss⟩:=s
      have hkk:∀ c,(MStep.mk k t fs n o c ss).kind=k∧(MStep.mk k t fs n o c ss).over=o∧(MStep.mk k t fs n o c ss).kids=ss:=fun c=>⟨rfl,rfl,rfl⟩
      rw [(hkk _).1,(hkk _).2.1] at hv
      rw [(hkk _).2.2] at ih
      rw [MStep.row_mk] at hnm
      clear h hr hs
      repeat'((conv=>whnf);first|(try(first|apply eN|apply eI|apply eL|apply eC);conv=>whnf);apply sD;(focus(try intro hc;have hc0:=hc;(try simp only[aA]at hc);try refine aE ?_);first|exact gx hnm|exact gx ih|(refine gx (mX ?_ ?_ ?_)<;>exact pre)|(exact bN hx rfl)|(exact hlk)|exact aC)|apply rR|apply rE|apply rH| (apply cD<;>intro hb<;>(try simp only[aA]at hb)<;>try exact aM))
      all_goals try exact false
      all_goals
        clear hx hnm ih hlk
        by_cases hc:(decide (k=3) || seen.contains kk || (decide (k=2) && (o == [] || !q)))=true
        · rw [hc] at hv
          have hv:false=r:=hv
          subst hv
          first
            |(exfalso;grind)
            |exact aT
        · have hc:(decide (k=3) || seen.contains kk || (decide (k=2) && (o == [] || !q)))=false:=by simpa using hc
          rw [hc,Bool.not_false,Bool.true_and] at hv
          have hni:kk ∉ seen:=by grind
          have hput:=hpt hni
          first
            |(exfalso;grind)
            | (refine ⟨(i+1,seen ++ [kk]),⟨by dsimp only;omega,hv⟩,by dsimp only;omega,?_⟩
               (conv=>whnf);refine ⟨?_,by rfl⟩;repeat' ((conv=>whnf);first|exact bE|(exact DLe.of_eq (by dsimp only;rw [hput]))|exact aO|with_reducible apply dC))
theorem zDt {tbs:List Tb} (l:List MStep) (hg:∀ s ∈ l,s.Good tbs):uM l:=by
 have key:∀ s:MStep,s.Good tbs→uM s.kids:=by
  intro s
  induction s using MStep.ind with
  |h k t fs n o c ss ih=>
   intro h
   have h3:=(cQ h).2
   exact yT ss (fun s hs=>zB (h3 s hs)) fun s hs=>ih s hs (h3 s hs)
 exact yT l (fun s hs=>zB (hg s hs)) fun s hs=>key s (hg s hs)
end Go.Proofs.YtnjgoldinaffgaaGreatDoor
