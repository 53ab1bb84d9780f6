/- Paths: what the program says of one; numbers of the reference (walks). The reader of conditions: words (walks). -/
import Derived.Test.YtindehjiaknokaaGreatDoorZ18
import Derived.Lib.LastIndexByte
import Derived.Lib.ItoaLen
import Derived.Lib.Join
namespace Go.Proofs.YtindehjiaknokaaGreatDoor
set_option linter.unusedSimpArgs false
set_option linter.unusedVariables false
open Go.RowKit
set_option maxRecDepth 100000
set_option maxHeartbeats 1000000
theorem parts_snoc {c:UInt8}:∀ (a r:List UInt8),c ∉ r→partsAt c (a++c::r)=partsAt c a ++ [r]
 |[],r,h=>by rw [List.nil_append,show partsAt c (c::r) = []::partsAt c r by rw [partsAt,if_pos rfl],parts_none h];rfl
 |b::a,r,h=>by
  rw [List.cons_append,partsAt,partsAt,parts_snoc a r h]
  split
  ·rfl
  ·cases hw:partsAt c a with
   |nil=>exact absurd hw (parts_ne a)
   |cons x t=>rfl
theorem last_cases (p:Str):(Lib.lastIndexByte ⟨p.toArray⟩ 47 = -1∧partsAt 47 p = [p])∨
  ∃ i:Nat,Lib.lastIndexByte ⟨p.toArray⟩ 47=i∧i < p.length∧partsAt 47 p=partsAt 47 (p.take i) ++ [p.drop (i+1)]:=by
 have hsz:(⟨p.toArray⟩:ByteArray).size=p.length:=by show p.toArray.size=_;simp
 have hget:∀ j:Nat,j < p.length→∃ x,p[j]?=some x∧(⟨p.toArray⟩:ByteArray).data[j]! = x:=fun j hj=>by
  refine ⟨p[j],List.getElem?_eq_getElem hj,?_⟩
  show (p.toArray)[j]! = _
  rw [getElem!_pos p.toArray j (by simpa using hj)]
  simp
 rcases Lib.lastIndexByte_spec ⟨p.toArray⟩ 47 with ⟨h1,h2⟩|⟨i,h1,h2,h3,h4⟩
 ·refine .inl ⟨h1,parts_none fun hm => ?_⟩
  obtain ⟨j,hj⟩:=List.mem_iff_getElem?.1 hm
  have hjl:=(gLt hj)
  obtain ⟨x,hx,he⟩:=hget j hjl
  rw [hj] at hx
  cases hx
  exact h2 j (by rw [hsz];exact hjl) (by rw [he];rfl)
 ·rw [hsz] at h1
  refine .inr ⟨i,h2,h1,?_⟩
  obtain ⟨x,hx,he⟩:=hget i h1
  rw [he] at h3
  obtain rfl:x=47:=by
   apply UInt8.toNat_inj.1
   have:(47:UInt8).toNat=47:=rfl
   omega
  have hd:p=p.take i++47::p.drop (i+1):=by
   have:=List.drop_eq_getElem_cons h1
   rw [(List.getElem?_eq_some_iff.1 hx).2] at this
   rw [← this,List.take_append_drop]
  have hn:(47:UInt8) ∉ p.drop (i+1):=fun hm=>by
   obtain ⟨j,hj⟩:=List.mem_iff_getElem?.1 hm
   rw [List.getElem?_drop] at hj
   have hjl:=(gLt hj)
   obtain ⟨y,hy,he⟩:=hget (i+1+j) hjl
   rw [hj] at hy
   cases hy
   exact h4 (i+1+j) (by omega) (by rw [hsz];exact hjl) (by rw [he];rfl)
  conv=>lhs;rw [hd]
  exact parts_snoc _ _ hn
def zW:Wy:=([],[],0,0)
def wayN (p:Str):Wy × Bool:=
 if (partsAt 47 p).dropLast.all isNameB=true then tailN (partsAt 47 p).dropLast (partsAt 46 ((partsAt 47 p).getLast?.getD [])) else (zW,false)
theorem way_sem (p:Str) (hp:p.length≤1000):Sem Tryz.prog 80 [.str p] (.tup [.agg (wayN p).1.row,.bool (wayN p).2]):=by
 rcases last_cases p with ⟨h1,h2⟩|⟨i,h1,h2,h3⟩
 ·unfold wayN
  rw [h2]
  exact way_none p hp h1
 ·unfold wayN
  rw [h3,List.dropLast_concat,List.getLast?_concat]
  by_cases hn:(partsAt 47 (p.take i)).all isNameB=true
  ·rw [if_pos hn]
   exact way_some p i hp h1 h2 hn
  ·rw [if_neg hn]
   exact way_bad p i hp h1 h2 (by simpa [namesB] using hn)
def pathErr (p:Str):Int:=if 200 < p.length then 2 else if (wayN p).2=true then 0 else 10
theorem checkPath_sem (p:Str):Sem Tryz.prog 56 [.str p] (.int .i64 (pathErr p)):=by
 have h:=fun h:p.length≤1000=>way_sem p h
 unfold pathErr
 generalize wayN p=r at h ⊢
 obtain ⟨w,b⟩:=r
 dsimp only at h ⊢
 unfold Wy.row at h
 refine si [] Tryz.func56 ?_
 repeat'((conv=>whnf);first|(try(first|apply eN|apply eI|apply eC);conv=>whnf);apply sD;(focus first|(refine gx (h (by omega))<;>exact pre)|(refine gx (way_sem ?_ ?_)<;>exact pre)|(refine gx (way_none ?_ ?_ ?_)<;>exact pre)|(refine gx (way_some ?_ ?_ ?_ ?_ ?_ ?_)<;>exact pre)|(refine gx (way_bad ?_ ?_ ?_ ?_ ?_ ?_)<;>exact pre)|exact side)|apply rR|apply rE|apply rH| (apply cD<;>intro hb<;>(try simp only[SPLT]at hb)<;>try exact noB))
 all_goals try exact false
 all_goals (
  repeat' ((conv=>whnf);first|exact endR|with_reducible first|apply And.intro|apply oR|apply oN|apply dC)
  all_goals (conv=>whnf)
  refine rle_int ?_
  clear h
  cases b<;>simp at hb ⊢<;>omega)
theorem within3_sem (n a b:Int):Sem Tryz.prog 134 [.int .i64 n,.int .i64 a,.int .i64 b] (.bool (decide (a≤n) && decide (n≤b))):=by
 refine si [] Tryz.func134 ?_
 repeat'((conv=>whnf);first|(try(first|apply eN);conv=>whnf);apply sD;(focus(try intro hc;have hc0:=hc;(try simp only[SPLT]at hc);try refine and0 ?_);first|exact sideG)|apply rR|apply rE|apply rH| (apply cD<;>intro hb<;>(try simp only[SPLT]at hb)<;>try exact noB))
 all_goals try exact false
 exact finR
theorem counted_sem (s:Str) (hs:s.length≤9223372036854775807):Sem Tryz.prog 133 [.str s,.int .i64 3] (.tup [.int .i64 (numN s).1,.bool (numN s).2]):=by
 by_cases h1:s.length < 1∨3 < s.length∨(1 < s.length∧(s.getD (Int.toNat 0) 0).toNat=48)
 ·have e:numN s=(0,false):=by
   unfold numN
   rw [if_neg]
   unfold canonB headZero
   simp only [Bool.and_eq_true,decide_eq_true_eq,Bool.not_eq_true',Bool.and_eq_false_iff,decide_eq_false_iff_not]
   omega
  rw [e]
  by_cases h0:s = []
  ·subst h0
   refine si [] Tryz.func133 ?_
   repeat'((conv=>whnf);first|(try(first|apply eN|apply eC);conv=>whnf);apply sD;(focus(try intro hc;have hc0:=hc;(try simp only[SPLT]at hc);try refine and0 ?_);first|(refine gx (atoi_sem ?_ ?_ ?_ ?_)<;>exact pre)|exact sideG)|apply rR|apply rE|apply rH| (apply cD<;>intro hb<;>(try simp only[SPLT]at hb)<;>try exact noB))
   all_goals try exact false
   exact finR
  ·refine si [] Tryz.func133 ?_
   repeat'((conv=>whnf);first|(try(first|apply eN|apply eC);conv=>whnf);apply sD;(focus(try intro hc;have hc0:=hc;(try simp only[SPLT]at hc);try refine and0 ?_);first|(refine gx (atoi_sem ?_ ?_ ?_ ?_)<;>exact pre)|exact sideG)|apply rR|apply rE|apply rH| ((apply cD)<;>intro hb<;>(try simp only [SPLT] at hb)<;>(try first|exact noB|((exfalso;simp_all;omega);done))))
   all_goals try exact false
   exact finR
 ·have hne:s ≠ []:=fun e=>by subst e;simp at h1
  have hc:canonB s=s.all digByte:=by
   unfold canonB headZero
   rw [show decide (1≤s.length)=true by simp;omega,show decide (s.length≤3)=true by simp;omega,Bool.true_and,Bool.true_and]
   rw [show (decide (1 < s.length) && decide ((s.getD (Int.toNat 0) 0).toNat=48))=false by simp only [Bool.and_eq_false_iff,decide_eq_false_iff_not];omega]
   rfl
  have hN:numN s=if s.all digByte=true then (valN s,true) else (0,false):=by unfold numN;rw [hc]
  have hA:s.all digByte=true→Sem Tryz.prog 89 [.str s] (.tup [.int .i64 (valN s),.pv .nilIface]):=fun h=>atoi_sem s (valN s) (by omega) (atoi_val (by omega) h)
  generalize numN s=r at hN ⊢
  generalize valN s=v at hA hN
  refine si [] Tryz.func133 ?_
  repeat'((conv=>whnf);first|(try(first|apply eN|apply eC);conv=>whnf);apply sD;(focus(try intro hc;have hc0:=hc;(try simp only[SPLT]at hc);try refine and0 ?_);first|(refine gx (atoi_sem ?_ ?_ ?_ ?_)<;>exact pre)|exact sideG)|apply rR|apply rE|apply rH| ((apply cD)<;>intro hb<;>(try simp only [SPLT] at hb)<;>(try first|exact noB|((exfalso;simp_all;omega);done))))
  all_goals try exact false
  refine loop_go (M:=fun t=>mem t []) hT hM (fun k:Nat => [(6,.int .i64 k)]) (fun k=>k≤s.length∧(s.take k).all digByte=true) (fun k=>s.length - k) (0) ?_ ?_ ?_
  ·exact finF
  ·exact ⟨by omega,rfl⟩
  ·rintro k ⟨hk,hall⟩
   cases hx:s[k]? with
   |none=>
    have hm:=List.getElem?_eq_none_iff.1 hx
    rw [List.take_of_length_le hm] at hall
    have hA:=hA hall
    rw [if_pos hall] at hN
    subst hN
    repeat'((conv=>whnf);first|(try(first|apply eN|apply eC);conv=>whnf);apply sD;(focus(try intro hc;have hc0:=hc;(try simp only[SPLT]at hc);try refine and0 ?_);first|exact gx hA|(refine gx (atoi_sem ?_ ?_ ?_ ?_)<;>exact pre)|exact sideG)|apply rR|apply rE|apply rH| (apply cD<;>intro hb<;>(try simp only[SPLT]at hb)<;>try exact noB))
    all_goals try exact false
    exact finR
   |some x=>
    have hlt:=(gLt hx)
    repeat'((conv=>whnf);first|(try(first|apply eN|apply eC);conv=>whnf);apply sD;(focus(try intro hc;have hc0:=hc;(try simp only[SPLT]at hc);try refine and0 ?_);first|(refine gx (atoi_sem ?_ ?_ ?_ ?_)<;>exact pre)|exact sideG)|apply rR|apply rE|apply rH| (apply cD<;>intro hb<;>(try simp only[SPLT]at hb)<;>try exact noB))
    all_goals try exact false
    ·simp [List.getD_eq_getElem?_getD,hx] at hb
     have hf:s.all digByte=false:=by
      rw [List.all_eq_false]
      exact ⟨x,gMem hx,by simp [digByte];omega⟩
     rw [hf] at hN
     subst hN
     exact finR
    ·refine ⟨k+1,⟨by omega,?_⟩,by omega,?_⟩
     ·simp [List.getD_eq_getElem?_getD,hx] at hb
      have:digByte x=true:=by simp [digByte];omega
      rw [take_at hx,List.all_append,hall]
      simp [this]
     ·exact finF
theorem small_sem (s:Str) (m:Int) (hs:s.length≤9223372036854775807):Sem Tryz.prog 107 [.str s,.int .i64 m] (.tup [.int .i64 (numN s).1,.bool (numB s m)]):=by
 have h:=counted_sem s hs
 unfold numB outR
 generalize numN s=r at h ⊢
 obtain ⟨n,o⟩:=r
 dsimp only at h ⊢
 have hw:=within3_sem n 1 m
 refine si [] Tryz.func107 ?_
 repeat'((conv=>whnf);first|(try(first|apply eN|apply eC);conv=>whnf);apply sD;(focus(try intro hc;have hc0:=hc;(try simp only[SPLT]at hc);try refine and0 ?_);first|exact gx h|exact gx hw|(refine gx (counted_sem ?_ ?_)<;>exact pre)|(refine gx (within3_sem ?_ ?_ ?_)<;>exact pre)|exact sideG)|apply rR|apply rE|apply rH| (apply cD<;>intro hb<;>(try simp only[SPLT]at hb)<;>try exact noB))
 all_goals try exact false
 repeat' ((conv=>whnf);first|exact endR|with_reducible first|apply And.intro|apply oR|apply oN|apply dC)
 all_goals (conv=>whnf)
 refine rle_bool ?_
 by_cases h1:n < 1<;>by_cases h2:m < n<;>cases o<;>simp [h1,h2]<;>omega
set_option maxHeartbeats 4000000
def ownErr (k:Int) (nk:Nat) (p:Str) (vs:List Str) (lo hi:Int):Int:=
 if k < 1∨9 < k then 4 else if formB k nk p vs.length lo hi=true then 3
 else if overB k=true then (if groupsErr p ≠ 0 then groupsErr p else if p = [] then 9 else 0)
 else if 4≤k∧pathErr p ≠ 0 then pathErr p
 else if k=5 then valuesErr vs else if k=6∨k=9 then endsErr k lo hi else 0
theorem ownFault_sem (k:Int) (rows:List (List D)) (p:Str) (vs:List Str) (lo hi:Int):Sem Tryz.prog 28 [.agg [.int .i64 k,.sl 0 6 rows,.str p,.sl 0 1 (vs.map fun s => [.str s]),.int .i64 lo,.int .i64 hi]] (.int .i64 (ownErr k rows.length p vs lo hi)):=by
 have h1:=checkPath_sem p
 have h2:=formFault_sem k rows p (vs.map fun s => [.str s]) lo hi
 rw [List.length_map] at h2
 have h3:=usesOf_sem k
 have h4:=isOver_sem k
 have h5:=outsideK_sem k 1 9
 have h6:=checkGroups_sem p
 have h7:=valuesFault_sem vs
 have h8:=endsFault_sem k rows p (vs.map fun s => [.str s]) lo hi
 have hr:ownErr k rows.length p vs lo hi=if k < 1∨9 < k then 4 else if formB k rows.length p vs.length lo hi=true then 3
  else if overB k=true then (if groupsErr p ≠ 0 then groupsErr p else if p = [] then 9 else 0)
  else if 4≤k∧pathErr p ≠ 0 then pathErr p
  else if k=5 then valuesErr vs else if k=6∨k=9 then endsErr k lo hi else 0:=rfl
 generalize ownErr k rows.length p vs lo hi=r at hr ⊢
 generalize pathErr p=pe at h1 hr
 generalize groupsErr p=ge at h6 hr
 generalize valuesErr vs=ve at h7 hr
 generalize endsErr k lo hi=ee at h8 hr
 generalize formB k rows.length p vs.length lo hi=fb at h2 hr
 generalize usesOfB k=ub at h3
 generalize overB k=ob at h4 hr
 refine si [3,2000003,1000016] Tryz.func28 ?_
 repeat'((conv=>whnf);first|(try(first|apply eN|apply eI|apply eC);conv=>whnf);apply sD;(focus first|exact gx h1|exact gx h2|exact gx h3|exact gx h4|exact gx h5|exact gx h6|exact gx h7|exact gx h8|(refine gx (outR_sem ?_ ?_)<;>exact pre)|(refine gx (outsideK_sem ?_ ?_ ?_)<;>exact pre)|(refine gx (formFault_sem ?_ ?_ ?_ ?_ ?_ ?_)<;>exact pre)|(refine gx (usesOf_sem ?_)<;>exact pre)|(refine gx (isOver_sem ?_)<;>exact pre)|(refine gx (checkGroups_sem ?_)<;>exact pre)|(refine gx (checkPath_sem ?_)<;>exact pre)|(refine gx (valuesFault_sem ?_)<;>exact pre)|(refine gx (endsFault_sem ?_ ?_ ?_ ?_ ?_ ?_)<;>exact pre)|exact side)|apply rR|apply rE|apply rH| (apply cD<;>intro hb<;>(try simp only[SPLT]at hb)<;>try exact noB))
 all_goals try exact false
 all_goals (
  repeat' ((conv=>whnf);first|exact endR|with_reducible first|apply And.intro|apply oR|apply oN|apply dC)
  all_goals (conv=>whnf)
  refine rle_int ?_
  rw [hr]
  clear h1 h2 h3 h4 h5 h6 h7 h8 hr
  repeat' split
  all_goals first|omega|rfl|(simp_all;done)|(simp_all;omega))
mutual
def Cond.chk:Cond→Int→Int→Int × Int
 |.mk k ks p vs lo hi,d,n=>if 200 < n+1∨6 < d then (n+1,2) else if ownErr k ks.length p vs lo hi ≠ 0 then (n+1,ownErr k ks.length p vs lo hi) else Cond.chks ks (d+1) (n+1)
def Cond.chks:List Cond→Int→Int→Int × Int
 |[],_,n=>(n,0)
 |c::l,d,n=>if (c.chk d n).2 ≠ 0 then c.chk d n else Cond.chks l d (c.chk d n).1
end
theorem chk_mk (k:Int) (ks:List Cond) (p:Str) (vs:List Str) (lo hi:Int) (d n:Int):(Cond.mk k ks p vs lo hi).chk d n=if 200 < n+1∨6 < d then (n+1,2) else if ownErr k ks.length p vs lo hi ≠ 0 then (n+1,ownErr k ks.length p vs lo hi) else Cond.chks ks (d+1) (n+1):=by
 rw [Cond.chk]
theorem chks_at {l:List Cond} {i:Nat} {c:Cond} (h:l[i]?=some c) (d n:Int):Cond.chks (l.drop i) d n=if (c.chk d n).2 ≠ 0 then c.chk d n else Cond.chks (l.drop (i+1)) d (c.chk d n).1:=by
 rw [List.drop_eq_getElem_cons (gLt h),(List.getElem?_eq_some_iff.1 h).2,Cond.chks]
attribute [irreducible] Cond.chk Cond.chks
theorem chks_nil (d n:Int):Cond.chks [] d n=(n,0):=by rw [Cond.chks]
theorem chks_bd {d:Int}:∀ (l:List Cond),(∀ c ∈ l,∀ n,n≤200→n < (c.chk d n).1∧((c.chk d n).2=0→(c.chk d n).1≤200))→∀ n,n≤200→n≤(Cond.chks l d n).1∧((Cond.chks l d n).2=0→(Cond.chks l d n).1≤200)
 |[],_,n,h=>by rw [chks_nil];exact ⟨Int.le_refl _,fun _=>h⟩
 |c::l,hc,n,h=>by
  obtain ⟨h1,h2⟩:=hc c (by simp) n h
  rw [Cond.chks]
  by_cases he:(c.chk d n).2=0
  ·rw [if_neg (by simp [he])]
   obtain ⟨h3,h4⟩:=chks_bd l (fun x hx=>hc x (by simp [hx])) _ (h2 he)
   exact ⟨by omega,h4⟩
  ·rw [if_pos he]
   exact ⟨by omega,fun e=>absurd e he⟩
theorem chk_bd (c:Cond):∀ d n:Int,n≤200→n < (c.chk d n).1∧((c.chk d n).2=0→(c.chk d n).1≤200):=by
 induction c using Cond.ind with
 |h k ks p vs lo hi ih=>
  intro d n hn
  rw [chk_mk]
  split
  ·exact ⟨by dsimp only;omega,fun e=>by cases e⟩
  ·split
   ·rename_i he
    exact ⟨by dsimp only;omega,fun e=>absurd e he⟩
   ·obtain ⟨h1,h2⟩:=chks_bd (d:=d+1) ks (fun c hc n hn=>ih c hc (d+1) n hn) (n+1) (by omega)
    exact ⟨by omega,h2⟩
theorem cond_sem (c:Cond):∀ d n:Int,0≤n→n≤200→0≤d→d≤1000→SemO Tryz.prog 16 (.obj [.int .i64 n]) [.agg c.row,.int .i64 d] (.int .i64 (c.chk d n).2) (some (.obj [.int .i64 (c.chk d n).1])):=by
 induction c using Cond.ind with
 |h k ks p vs lo hi ih=>
  intro d n hn0 hn hd0 hd
  have h1:=ownFault_sem k (ks.map Cond.row) p vs lo hi
  rw [List.length_map] at h1
  rw [chk_mk,Cond.row_mk]
  generalize ownErr k ks.length p vs lo hi=e at h1 ⊢
  generalize hr:(if 200 < n+1∨6 < d then (n+1,(2:Int)) else if e ≠ 0 then (n+1,e) else Cond.chks ks (d+1) (n+1))=r
  refine sO [0,9,1000016] Tryz.func16 ?_
  repeat'((conv=>whnf);first|(try(first|apply eN|apply eI|apply eC);conv=>whnf);apply sD;(focus(try intro hc;have hc0:=hc;(try simp only[SPLT]at hc);try refine and0 ?_);first|exact gx h1|(refine gx (ownFault_sem ?_ ?_ ?_ ?_ ?_ ?_)<;>exact pre)|exact sideG)|((with_reducible apply CallO.go);(conv=>whnf);apply sD;(focus first|(apply giveso_g (condO_sem _ _ _ _ _ _ _);all_goals exact preO)))|apply rR|apply rE|apply rH| (apply cD<;>intro hb<;>(try simp only[SPLT]at hb)<;>try exact noB))
  all_goals try exact false
  ·rw [if_pos (by omega)] at hr
   subst hr
   exact finR
  ·rw [if_neg (by omega),if_pos (by omega)] at hr
   subst hr
   exact finR
  ·have hll:(ks.map Cond.row).length=ks.length:=List.length_map _
   rw [if_neg (by omega),if_neg (by omega)] at hr
   refine loop_go (M:=fun t=>mem t [0,9,1000016]) hT hM (fun x:Nat × Int => [(35,.int .i64 x.1),(0,.obj [.int .i64 x.2])]) (fun x=>x.1≤ks.length∧n+1+x.1≤x.2∧x.2≤200∧Cond.chks (ks.drop x.1) (d+1) x.2=r) (fun x=>ks.length - x.1) ((0,n+1)) ?_ ?_ ?_
   ·exact finF
   ·exact ⟨Nat.zero_le _,by dsimp only;omega,by dsimp only;omega,hr⟩
   ·rintro ⟨i,m⟩ ⟨hi,hm1,hm2,hv⟩
    dsimp only at hi hm1 hm2 hv ⊢
    cases hx:ks[i]? with
    |none=>
     have hm:=List.getElem?_eq_none_iff.1 hx
     rw [List.drop_of_length_le hm,chks_nil] at hv
     subst hv
     repeat'((conv=>whnf);first|(try(first|apply eN|apply eI|apply eC);conv=>whnf);apply sD;(focus(try intro hc;have hc0:=hc;(try simp only[SPLT]at hc);try refine and0 ?_);first|(refine gx (ownFault_sem ?_ ?_ ?_ ?_ ?_ ?_)<;>exact pre)|exact sideG)|((with_reducible apply CallO.go);(conv=>whnf);apply sD;(focus first|(apply giveso_g (condO_sem _ _ _ _ _ _ _);all_goals exact preO)))|apply rR|apply rE|apply rH| (apply cD<;>intro hb<;>(try simp only[SPLT]at hb)<;>try exact noB))
     all_goals try exact false
     exact finR
    |some x=>
     have hlt:=(gLt hx)
     obtain ⟨hb1,hb2⟩:=chk_bd x (d+1) m hm2
     have ih':=ih x (gMem hx) (d+1) m (by omega) hm2 (by omega) (by omega)
     rw [chks_at hx] at hv
     generalize x.chk (d+1) m=y at hv ih' hb1 hb2
     obtain ⟨m2,e2⟩:=y
     obtain ⟨k1,ks1,p1,vs1,lo1,hi1⟩:=x
     rw [Cond.row_mk] at ih'
     dsimp only at hv ih' hb1 hb2
     repeat'((conv=>whnf);first|(try(first|apply eN|apply eI|apply eC);conv=>whnf);apply sD;(focus(try intro hc;have hc0:=hc;(try simp only[SPLT]at hc);try refine and0 ?_);first|(exact idx_row hx rfl)|(refine gx (ownFault_sem ?_ ?_ ?_ ?_ ?_ ?_)<;>exact pre)|exact sideG)|((with_reducible apply CallO.go);(conv=>whnf);apply sD;(focus first|(apply giveso_g (ih');all_goals exact preO)))|apply rR|apply rE|apply rH| (apply cD<;>intro hb<;>(try simp only[SPLT]at hb)<;>try exact noB))
     all_goals try exact false
     ·rw [if_pos (by omega)] at hv
      subst hv
      exact finR
     ·rw [if_neg (by omega)] at hv
      refine ⟨(i+1,m2),⟨by dsimp only;omega,by dsimp only;omega,by dsimp only;omega,hv⟩,by dsimp only;omega,?_⟩
      exact finF
theorem condO_sem (c:Cond) (d n:Int) (h0:0≤n) (h1:n≤200) (h2:0≤d) (h3:d≤1000):SemO Tryz.prog 16 (.obj [.int .i64 n]) [.agg c.row,.int .i64 d] (.int .i64 (c.chk d n).2) (some (.obj [.int .i64 (c.chk d n).1])):=cond_sem c d n h0 h1 h2 h3
def Cond.err (c:Cond):Int:=(c.chk 0 0).2
theorem checkCond_sem (c:Cond):Sem Tryz.prog 8 [.agg c.row] (.int .i64 c.err):=by
 have h:=cond_sem c 0 0 (by omega) (by omega) (by omega) (by omega)
 unfold Cond.err
 generalize c.chk 0 0=y at h ⊢
 obtain ⟨m,e⟩:=y
 obtain ⟨k,ks,p,vs,lo,hi⟩:=c
 rw [Cond.row_mk] at h ⊢
 dsimp only at h ⊢
 refine si [4,1000016] Tryz.func8 ?_
 repeat'((conv=>whnf);first|(try(first|apply eN|apply eI|apply eC);conv=>whnf);apply sD;(focus first|exact side)|((with_reducible apply CallO.go);(conv=>whnf);apply sD;(focus first|(apply giveso_g (h);all_goals exact preO)))|apply rR|apply rE|apply rH| (apply cD<;>intro hb<;>(try simp only[SPLT]at hb)<;>try exact noB))
 all_goals try exact false
 exact finR
inductive Cond.Txt:Cond→Prop where
 |mk {k:Int} {ks:List Cond} {p:Str} {vs:List Str} {lo hi:Int} (hp:p.length≤9223372036854775807) (hv:∀ v ∈ vs,v.length≤9223372036854775807) (hk:∀ x ∈ ks,x.Txt):(Cond.mk k ks p vs lo hi).Txt
def escB (x:UInt8):Str:=if x=34∨x=92 then [92,x] else [x]
def escS (s:Str):Str:=s.flatMap escB
def quoteS (s:Str):Str:=34::(escS s ++ [34])
def commaJ (l:List Str):Str:=Lib.join l [44,32]
def fromTo (lo hi:Int):Str := [32,102,114,111,109,32]++Lib.itoa lo ++ [32,116,111,32]++Lib.itoa hi
mutual
def Cond.text:Cond→Str
 |.mk k ks p vs lo hi=>
  if k=1 then [97,108,108,40]++commaJ (Cond.texts ks) ++ [41]
  else if k=2 then [97,110,121,40]++commaJ (Cond.texts ks) ++ [41]
  else if k=3 then [110,111,116,40]++commaJ (Cond.texts ks) ++ [41]
  else if k=4 then [116,104,101,114,101,32]++p
  else if k=6 then [99,111,117,110,116,32]++p++fromTo lo hi
  else if k=9 then p++fromTo lo hi
  else if k=7 then [101,97,99,104,32]++p ++ [32,40]++commaJ (Cond.texts ks) ++ [41]
  else if k=8 then [115,111,109,101,32]++p ++ [32,40]++commaJ (Cond.texts ks) ++ [41]
  else p ++ [32,105,110,32,40]++commaJ (vs.map quoteS) ++ [41]
def Cond.texts:List Cond→List Str
 |[] => []
 |c::l=>c.text::Cond.texts l
end
abbrev Pl:=Nat × Bool
def isStop (c:UInt8):Bool:=c == 32 || c == 40 || c == 41 || c == 44
def part (s:Str) (i j:Nat):Str:=(s.drop i).take (j - i)
def startsAt (s t:Str) (i:Nat):Bool:=t.isPrefixOf (s.drop i)
def wantI (s:Str):Str→Nat→Pl
 |[],i=>(i,false)
 |x::t,i=>if s[i]?=some x then wantI s t (i+1) else (i,true)
def wantS (s t:Str) (q:Pl):Pl:=if q.2=true then q else wantI s t q.1
def isS (s t:Str) (q:Pl):Bool := !q.2 && startsAt s t q.1
def pathEnd (s:Str) (i:Nat):Nat:=i+((s.drop i).takeWhile fun c => !isStop c).length
def pathS (s:Str) (q:Pl):Str × Pl:=if q.2=true then ([],q) else (part s q.1 (pathEnd s q.1),pathEnd s q.1,pathEnd s q.1 == q.1)
def digAt (s:Str) (i:Nat):Bool:=match s[i]? with|some c=>digByte c|none=>false
def digsEnd (s:Str):Nat→Nat→Nat
 |0,i=>i
 |n+1,i=>if digAt s i=true then digsEnd s n (i+1) else i
def numV (s:Str):Int:=match s with|45::r => - valN r|r=>valN r
def numF (s:Str) (i:Nat):Nat:=if startsAt s [45] i=true then i+1 else i
def numE (s:Str) (f:Nat):Nat:=if s[f]?=some 48 then f+1 else digsEnd s 13 f
def numI (s:Str) (i:Nat):Int × Pl:=
 if digAt s (numF s i)=false∨(startsAt s [45] i=true∧s[numF s i]?=some 48) then (0,numF s i,true)
 else if digAt s (numE s (numF s i))=true then (0,numE s (numF s i),true) else (numV (part s i (numE s (numF s i))),numE s (numF s i),false)
def numS (s:Str) (q:Pl):Int × Pl:=if q.2=true then (0,q) else numI s q.1
def quoI (s:Str):Nat→Nat→Str→Str × Pl
 |0,i,out=>(out,i,true)
 |n+1,i,out=>match s[i]? with
  |none=>(out,i,true)
  |some c=>if c=34 then (out,i+1,false)
   else if c=92 then (match s[i+1]? with
    |none=>(out,i+1,true)
    | some d=>if d=34∨d=92 then quoI s n (i+2) (out ++ [d]) else (out,i+1,true))
   else quoI s n (i+1) (out ++ [c])
def quoS (s:Str) (q:Pl):Str × Pl:=if (wantS s [34] q).2=true then ([],wantS s [34] q) else quoI s (s.length+1) (wantS s [34] q).1 []
def sevS {α:Type} (one:Pl→α × Pl) (s:Str):Nat→Pl→List α × Pl
 |0,q=>([],q.1,true)
 |m+1,q=>
  if (one q).2.2=true then ([(one q).1],(one q).2)
  else if isS s [41] (one q).2=true then ([(one q).1],(one q).2.1+1,false)
  else ((one q).1::(sevS one s m (wantS s [44,32] (one q).2)).1,(sevS one s m (wantS s [44,32] (one q).2)).2)
def oneS {α:Type} (one:Pl→α × Pl) (s:Str) (q:Pl):List α × Pl:=([(one q).1],wantS s [41] (one q).2)
def endsS (s:Str) (q:Pl):(Int × Int) × Pl:=(((numS s q).1,(numS s (wantS s [32,116,111,32] (numS s q).2)).1),(numS s (wantS s [32,116,111,32] (numS s q).2)).2)
def zeroC:Cond:=.mk 0 [] [] [] 0 0
def wAll:Str := [97,108,108,40]
def wAny:Str := [97,110,121,40]
def wNot:Str := [110,111,116,40]
def wThere:Str := [116,104,101,114,101,32]
def wCount:Str := [99,111,117,110,116,32]
def wEach:Str := [101,97,99,104,32]
def wSome:Str := [115,111,109,101,32]
def wIn:Str := [105,110,32,40]
def wFrom:Str := [102,114,111,109,32]
def testS (s:Str) (q:Pl):Cond × Pl:=
 let p:=pathS s q
 let b:=wantS s [32] p.2
 if isS s wIn b=true then (.mk 5 [] p.1 (sevS (quoS s) s (s.length+1) (b.1+4,false)).1 0 0,(sevS (quoS s) s (s.length+1) (b.1+4,false)).2)
 else if isS s wFrom b=true then (.mk 9 [] p.1 [] (endsS s (b.1+5,false)).1.1 (endsS s (b.1+5,false)).1.2,(endsS s (b.1+5,false)).2)
 else (.mk 0 [] p.1 [] 0 0,if startsAt s [102] b.1=true then wantS s wFrom b else wantS s wIn b)
def overS (one:Pl→Cond × Pl) (k:Int) (s:Str) (q:Pl):Cond × Pl:=
 (.mk k (oneS one s (wantS s [32,40] (pathS s q).2)).1 (pathS s q).1 [] 0 0,(oneS one s (wantS s [32,40] (pathS s q).2)).2)
def countS (s:Str) (q:Pl):Cond × Pl:=
 (.mk 6 [] (pathS s q).1 [] (endsS s (wantS s (32::wFrom) (pathS s q).2)).1.1 (endsS s (wantS s (32::wFrom) (pathS s q).2)).1.2,(endsS s (wantS s (32::wFrom) (pathS s q).2)).2)
def pcS:Nat→Str→Pl→Cond × Pl
 |0,_,q=>(zeroC,q.1,true)
 |n+1,s,q=>
  if q.2=true then (zeroC,q)
  else if startsAt s wAll q.1=true then (.mk 1 (sevS (pcS n s) s (s.length+1) (q.1+4,false)).1 [] [] 0 0,(sevS (pcS n s) s (s.length+1) (q.1+4,false)).2)
  else if startsAt s wAny q.1=true then (.mk 2 (sevS (pcS n s) s (s.length+1) (q.1+4,false)).1 [] [] 0 0,(sevS (pcS n s) s (s.length+1) (q.1+4,false)).2)
  else if startsAt s wNot q.1=true then (.mk 3 (oneS (pcS n s) s (q.1+4,false)).1 [] [] 0 0,(oneS (pcS n s) s (q.1+4,false)).2)
  else if startsAt s wThere q.1=true then (.mk 4 [] (pathS s (q.1+6,false)).1 [] 0 0,(pathS s (q.1+6,false)).2)
  else if startsAt s wCount q.1=true then countS s (q.1+6,false)
  else if startsAt s wEach q.1=true then overS (pcS n s) 7 s (q.1+5,false)
  else if startsAt s wSome q.1=true then overS (pcS n s) 8 s (q.1+5,false)
  else testS s q
/-! What was read is the text of it. -/
structure Ate (s:Str) (i:Nat) (t:Str) (j:Nat):Prop where
 drop:s.drop i=t++s.drop j
 at_:j=i+t.length
theorem Ate.nil (s:Str) (i:Nat):Ate s i [] i:=⟨rfl,rfl⟩
theorem Ate.trans {s t u:Str} {i j k:Nat} (h:Ate s i t j) (g:Ate s j u k):Ate s i (t++u) k:=
 ⟨by rw [h.drop,g.drop,List.append_assoc],by rw [g.at_,h.at_,List.length_append];omega⟩
theorem Ate.of {s t r:Str} {i:Nat} (h:s.drop i=t++r):Ate s i t (i+t.length)∧s.drop (i+t.length)=r:=by
 have e:s.drop (i+t.length)=r:=by rw [← List.drop_drop,h,List.drop_left]
 exact ⟨⟨by rw [e,h],rfl⟩,e⟩
theorem drop_atX {s:Str} {i:Nat} {x:UInt8} (h:s[i]?=some x):s.drop i=x::s.drop (i+1):=by
 obtain ⟨hl,rfl⟩:=List.getElem?_eq_some_iff.1 h
 exact List.drop_eq_getElem_cons hl
theorem at_drop {s r:Str} {i:Nat} {x:UInt8} (h:s.drop i=x::r):s[i]?=some x:=by
 have:(s.drop i)[0]?=some x:=by rw [h];rfl
 simpa using this
theorem want_ate {s:Str}:∀ (t:Str) (i:Nat),(wantI s t i).2=false→Ate s i t (wantI s t i).1
 |[],i,_=>Ate.nil s i
 |x::t,i,h=>by
  unfold wantI at h ⊢
  split at h
  ·rename_i hx
   rw [if_pos hx]
   have g:=want_ate t (i+1) h
   exact ⟨by rw [drop_atX hx,g.drop];rfl,by rw [g.at_,List.length_cons];omega⟩
  ·cases h
theorem want_of {s r:Str}:∀ (t:Str) (i:Nat),s.drop i=t++r→wantI s t i=(i+t.length,false)
 |[],i,_=>rfl
 |x::t,i,h=>by
  unfold wantI
  rw [if_pos (at_drop h)]
  have:s.drop (i+1)=t++r:=by rw [← List.drop_drop,h];rfl
  rw [want_of t (i+1) this,List.length_cons,show i+1+t.length=i+(t.length+1) by omega]
theorem wantS_ate {s t:Str} {q:Pl} (h:(wantS s t q).2=false):q.2=false∧Ate s q.1 t (wantS s t q).1:=by
 unfold wantS at h ⊢
 split at h
 ·rename_i hq;rw [hq] at h;cases h
 ·rename_i hq
  rw [if_neg hq]
  exact ⟨by simpa using hq,want_ate t q.1 h⟩
theorem starts_iff {s t:Str} {i:Nat}:startsAt s t i=true↔∃ r,s.drop i=t++r:=by
 unfold startsAt
 rw [List.isPrefixOf_iff_prefix]
 constructor
 ·rintro ⟨r,hr⟩;exact ⟨r,hr.symm⟩
 ·rintro ⟨r,hr⟩;exact ⟨r,hr.symm⟩
theorem starts_ate {s t:Str} {i:Nat} (h:startsAt s t i=true):Ate s i t (i+t.length):=by
 obtain ⟨r,hr⟩:=starts_iff.1 h
 exact (Ate.of hr).1
theorem digs_ate {s:Str}:∀ (n i:Nat),∃ t:Str,Ate s i t (digsEnd s n i)∧t.all digByte=true∧t.length≤n∧(0 < n→digAt s i=true→1≤t.length)
 |0,i=>⟨[],Ate.nil s i,rfl,Nat.le_refl _,fun h=>absurd h (by omega)⟩
 |n+1,i=>by
  unfold digsEnd
  split
  ·rename_i hd
   obtain ⟨t,h1,h2,h3,_⟩:=digs_ate n (i+1)
   unfold digAt at hd
   cases hx:s[i]? with
   |none=>rw [hx] at hd;cases hd
   |some c=>
    rw [hx] at hd
    have hd:digByte c=true:=hd
    refine ⟨c::t,⟨by rw [drop_atX hx,h1.drop];rfl,by rw [h1.at_,List.length_cons];omega⟩,by rw [List.all_cons,h2,hd];rfl,by rw [List.length_cons];omega,fun _ _=>by rw [List.length_cons];omega⟩
  ·rename_i hd
   exact ⟨[],Ate.nil s i,rfl,Nat.zero_le _,fun _ h=>absurd h hd⟩
theorem digAt_some {s:Str} {i:Nat} (h:digAt s i=true):∃ c,s[i]?=some c∧digByte c=true:=by
 unfold digAt at h
 cases hx:s[i]? with
 |none=>rw [hx] at h;cases h
 |some c=>rw [hx] at h;exact ⟨c,rfl,h⟩
theorem numE_ate {s:Str} {f:Nat} (h:digAt s f=true):∃ t:Str,Ate s f t (numE s f)∧t.all digByte=true∧1≤t.length∧t.length≤13∧headZero t=false∧(s[f]? ≠ some 48→∃ a r,t=a::r∧a.toNat ≠ 48):=by
 obtain ⟨c,hc,hd⟩:=digAt_some h
 unfold numE
 split
 ·rename_i h48
  refine ⟨[48],⟨drop_atX h48,rfl⟩,rfl,by simp,by simp,rfl,fun h=>absurd h48 h⟩
 ·rename_i h48
  obtain ⟨t,h1,h2,h3,h4⟩:=digs_ate (s:=s) 13 f
  have h5:=h4 (by omega) h
  cases t with
  |nil=>simp at h5
  |cons a t=>
   have ha:a=c:=by
    have:=h1.drop
    rw [drop_atX hc] at this
    exact (List.cons.inj this).1.symm
   have h6:a.toNat ≠ 48:=fun e=>h48 (by rw [hc,← ha];congr 1;exact UInt8.toNat_inj.1 e)
   exact ⟨_,h1,h2,h5,h3,by unfold headZero;simp [h6],fun _=>⟨a,t,rfl,h6⟩⟩
theorem part_ate {s t:Str} {i j:Nat} (h:Ate s i t j):part s i j=t:=by
 unfold part
 rw [h.at_,Nat.add_sub_cancel_left,h.drop,List.take_left]
theorem numV_dig {t:Str} (h1:t.all digByte=true):numV t=valN t:=by
 unfold numV
 split
 ·rename_i r
  rw [List.all_cons] at h1
  exact absurd h1 (by simp [digByte])
 ·rfl
def pC (s:Str) (q:Pl):List D := [.str s,.int .i64 q.1,.bool q.2]
def bI (q:Pl):Int:=if q.2=true then q.1 else -1
def rD (s:Str) (q:Pl):List D := [.str s,.int .i64 q.1,.int .i64 (bI q)]
theorem prefix_take (s t : Str) : t.isPrefixOf s = (decide (t.length ≤ s.length) && decide (s.take t.length = t)) := by
  rw [Bool.eq_iff_iff, List.isPrefixOf_iff_prefix, Bool.and_eq_true, decide_eq_true_eq, decide_eq_true_eq]
  constructor
  · rintro ⟨r, rfl⟩
    exact ⟨by simp, by simp⟩
  · rintro ⟨_, h⟩
    exact ⟨s.drop t.length, by conv => lhs; lhs; rw [← h]
                               exact List.take_append_drop _ _⟩
theorem prefix1_sem (s t:Str):Sem Tryz.prog 86 [.str s,.str t] (.bool (t.isPrefixOf s)):=by
 rw [prefix_take]
 refine si [1000016,1000030] Tryz.func86 ?_
 repeat'((conv=>whnf);first|(try(first|apply eN|apply eC);conv=>whnf);apply sD;(focus(try intro hc;have hc0:=hc;(try simp only[SPLT]at hc);try refine and0 ?_);first|exact sideG)|apply rR|apply rE|apply rH| (apply cD<;>intro hb<;>(try simp only[SPLT]at hb)<;>try exact noB))
 all_goals try exact false
 repeat' ((conv=>whnf);first|exact endR|with_reducible first|apply And.intro|apply oR|apply oN|apply dC)
 all_goals (conv=>whnf)
 exact rle_bool (by rw [Bool.eq_iff_iff];simp)
theorem prefix_sem (s t:Str):Sem Tryz.prog 64 [.str s,.str t] (.bool (t.isPrefixOf s)):=by
 refine si [1000016,1000030] Tryz.func64 ?_
 repeat'((conv=>whnf);first|(try(first|apply eN|apply eC);conv=>whnf);apply sD;(focus first|(refine gx (prefix1_sem ?_ ?_)<;>exact pre)|exact side)|apply rR|apply rE|apply rH| (apply cD<;>intro hb<;>(try simp only[SPLT]at hb)<;>try exact noB))
 all_goals try exact false
 exact finR
theorem prefixAt (s t:Str) (i:Nat):Sem Tryz.prog 64 [.str ((s.take ((s.length:Int)).toNat).drop ((i:Int)).toNat),.str t] (.bool (startsAt s t i)):=by
 have h:=prefix_sem ((s.take ((s.length:Int)).toNat).drop ((i:Int)).toNat) t
 have e:(s.take ((s.length:Int)).toNat).drop ((i:Int)).toNat=s.drop i:=by simp
 have e2:t.isPrefixOf ((s.take ((s.length:Int)).toNat).drop ((i:Int)).toNat)=startsAt s t i:=by rw [e];rfl
 rwa [e2] at h
theorem is_sem (s t:Str) (q:Pl) (hq:q.1≤s.length) (hs:s.length≤100000000) (ht:t.length≤100):
  SemO Tryz.prog 30 (.obj (pC s q)) [.str t] (.bool (isS s t q)) (some (.obj (pC s (if isS s t q=true then (q.1+t.length,false) else q)))):=by
 obtain ⟨i,b⟩:=q
 dsimp only at hq
 have hp:=prefixAt s t i
 unfold isS pC
 dsimp only
 generalize startsAt s t i=y at *
 cases b<;>cases y<;>simp only [Bool.not_false,Bool.not_true,Bool.and_true,Bool.and_false,Bool.false_eq_true,↓reduceIte,Int.natCast_add]
 ·refine sO [0,1000016,1000030] Tryz.func30 ?_
  repeat'((conv=>whnf);first|(try(first|apply eN|apply eI|apply eC);conv=>whnf);apply sD;(focus(try intro hc;have hc0:=hc;(try simp only[SPLT]at hc);try refine and0 ?_);first|exact gx hp|(refine gx (prefix_sem ?_ ?_)<;>exact pre)|(refine gx (prefixAt ?_ ?_ ?_)<;>exact pre)|exact sideG)|(first|apply dG|apply kB);kernel_rfl|apply rR|apply rE|apply rH| (apply cD<;>intro hb<;>(try simp only[SPLT]at hb)<;>try exact noB))
  all_goals try exact false
  exact finR
 ·refine sO [0,1000016,1000030] Tryz.func30 ?_
  repeat'((conv=>whnf);first|(try(first|apply eN|apply eI|apply eC);conv=>whnf);apply sD;(focus(try intro hc;have hc0:=hc;(try simp only[SPLT]at hc);try refine and0 ?_);first|exact gx hp|(refine gx (prefix_sem ?_ ?_)<;>exact pre)|(refine gx (prefixAt ?_ ?_ ?_)<;>exact pre)|exact sideG)|(first|apply dG|apply kB);kernel_rfl|apply rR|apply rE|apply rH| (apply cD<;>intro hb<;>(try simp only[SPLT]at hb)<;>try exact noB))
  all_goals try exact false
  exact finR
 ·refine sO [0,1000016,1000030] Tryz.func30 ?_
  repeat'((conv=>whnf);first|(try(first|apply eN|apply eI|apply eC);conv=>whnf);apply sD;(focus(try intro hc;have hc0:=hc;(try simp only[SPLT]at hc);try refine and0 ?_);first|exact gx hp|(refine gx (prefix_sem ?_ ?_)<;>exact pre)|(refine gx (prefixAt ?_ ?_ ?_)<;>exact pre)|exact sideG)|(first|apply dG|apply kB);kernel_rfl|apply rR|apply rE|apply rH| (apply cD<;>intro hb<;>(try simp only[SPLT]at hb)<;>try exact noB))
  all_goals try exact false
  exact finR
 ·refine sO [0,1000016,1000030] Tryz.func30 ?_
  repeat'((conv=>whnf);first|(try(first|apply eN|apply eI|apply eC);conv=>whnf);apply sD;(focus(try intro hc;have hc0:=hc;(try simp only[SPLT]at hc);try refine and0 ?_);first|exact gx hp|(refine gx (prefix_sem ?_ ?_)<;>exact pre)|(refine gx (prefixAt ?_ ?_ ?_)<;>exact pre)|exact sideG)|(first|apply dG|apply kB);kernel_rfl|apply rR|apply rE|apply rH| (apply cD<;>intro hb<;>(try simp only[SPLT]at hb)<;>try exact noB))
  all_goals try exact false
  exact finR
theorem digit_sem (s:Str) (i:Nat) (b:Bool) (hs:s.length≤100000000):Sem Tryz.prog 88 [.ptr [.str s,.int .i64 i,.bool b]] (.bool (digAt s i)):=by
 cases hx:s[i]? with
 |none=>
  have hm:=List.getElem?_eq_none_iff.1 hx
  have e:digAt s i=false:=by unfold digAt;rw [hx]
  rw [e]
  refine si [1000016,1000030] Tryz.func88 ?_
  repeat'((conv=>whnf);first|(try(first|apply eN|apply eI|apply eC);conv=>whnf);apply sD;(focus(try intro hc;have hc0:=hc;(try simp only[SPLT]at hc);try refine and0 ?_);first|exact sideG)|(first|apply dG|apply kB);kernel_rfl|apply rR|apply rE|apply rH| (apply cD<;>intro hb<;>(try simp only[SPLT]at hb)<;>try exact noB))
  all_goals try exact false
  repeat' ((conv=>whnf);first|exact endR|with_reducible first|apply And.intro|apply oR|apply oN|apply dC)
  all_goals (conv=>whnf)
  exact rle_bool (by simp;omega)
 |some c=>
  have hlt:=(gLt hx)
  have e:digAt s i=digByte c:=by unfold digAt;rw [hx]
  rw [e]
  refine si [1000016,1000030] Tryz.func88 ?_
  repeat'((conv=>whnf);first|(try(first|apply eN|apply eI|apply eC);conv=>whnf);apply sD;(focus(try intro hc;have hc0:=hc;(try simp only[SPLT]at hc);try refine and0 ?_);first|exact sideG)|(first|apply dG|apply kB);kernel_rfl|apply rR|apply rE|apply rH| (apply cD<;>intro hb<;>(try simp only[SPLT]at hb)<;>try exact noB))
  all_goals try exact false
  repeat' ((conv=>whnf);first|exact endR|with_reducible first|apply And.intro|apply oR|apply oN|apply dC)
  all_goals (conv=>whnf)
  have hcd:s.getD ((i:Int).toNat) 0=c:=by rw [Int.toNat_natCast,List.getD_eq_getElem?_getD,hx];rfl
  exact rle_bool (by unfold digByte;rw [hcd,Bool.eq_iff_iff];simp;omega)
end Go.Proofs.YtindehjiaknokaaGreatDoor
