/- Paths: what the program says of one; numbers of the reference (walks). Conditions are right: the program's check (walks). The text of a condition (plain). The text that a table of replacements makes of a text. What the shelf says of strings.Join and strconv.Itoa, as contracts on data. Reading a condition (plain). What was written is read (plain). What a right condition is, and how long its text is (plain). -/
import Derived.Test.YtindehjiaknokaaGreatDoorZ19
import Derived.Lib.LastIndexByte
import Derived.Test.YtindehjiaknokaaGreatDoorZ14
import Derived.Lib.ItoaNum
import Derived.Lib.ItoaLen
import Derived.Lib.Join
import Derived.Test.YtindehjiaknokaaGreatDoorZ10
import Derived.Test.YtindehjiaknokaaGreatDoorZ11
import Derived.Test.YtindehjiaknokaaGreatDoorZ18
namespace Go.Proofs.YtindehjiaknokaaGreatDoor
set_option linter.unusedSimpArgs false
set_option linter.unusedVariables false
open Go.RowKit
set_option maxRecDepth 100000
set_option maxHeartbeats 1000000
theorem parts_snoc {c:UInt8}:∀ (a r:List UInt8),c ∉ r→partsAt c (a++c::r)=partsAt c a ++ [r]
 |[],r,h=>by rw [List.nil_append,show partsAt c (c::r) = []::partsAt c r by rw [partsAt,if_pos rfl],parts_none h];rfl
 |b::a,r,h=>by
  rw [List.cons_append,partsAt,partsAt,parts_snoc a r h]
  split
  ·rfl
  ·cases hw:partsAt c a with
   |nil=>exact absurd hw (parts_ne a)
   |cons x t=>rfl
theorem last_cases (p:Str):(Lib.lastIndexByte ⟨p.toArray⟩ 47 = -1∧partsAt 47 p = [p])∨
  ∃ i:Nat,Lib.lastIndexByte ⟨p.toArray⟩ 47=i∧i < p.length∧partsAt 47 p=partsAt 47 (p.take i) ++ [p.drop (i+1)]:=by
 have hsz:(⟨p.toArray⟩:ByteArray).size=p.length:=by show p.toArray.size=_;simp
 have hget:∀ j:Nat,j < p.length→∃ x,p[j]?=some x∧(⟨p.toArray⟩:ByteArray).data[j]! = x:=fun j hj=>by
  refine ⟨p[j],List.getElem?_eq_getElem hj,?_⟩
  show (p.toArray)[j]! = _
  rw [getElem!_pos p.toArray j (by simpa using hj)]
  simp
 rcases Lib.lastIndexByte_spec ⟨p.toArray⟩ 47 with ⟨h1,h2⟩|⟨i,h1,h2,h3,h4⟩
 ·refine .inl ⟨h1,parts_none fun hm => ?_⟩
  obtain ⟨j,hj⟩:=List.mem_iff_getElem?.1 hm
  have hjl:=(gLt hj)
  obtain ⟨x,hx,he⟩:=hget j hjl
  rw [hj] at hx
  cases hx
  exact h2 j (by rw [hsz];exact hjl) (by rw [he];rfl)
 ·rw [hsz] at h1
  refine .inr ⟨i,h2,h1,?_⟩
  obtain ⟨x,hx,he⟩:=hget i h1
  rw [he] at h3
  obtain rfl:x=47:=by
   apply UInt8.toNat_inj.1
   have:(47:UInt8).toNat=47:=rfl
   omega
  have hd:p=p.take i++47::p.drop (i+1):=by
   have:=List.drop_eq_getElem_cons h1
   rw [(List.getElem?_eq_some_iff.1 hx).2] at this
   rw [← this,List.take_append_drop]
  have hn:(47:UInt8) ∉ p.drop (i+1):=fun hm=>by
   obtain ⟨j,hj⟩:=List.mem_iff_getElem?.1 hm
   rw [List.getElem?_drop] at hj
   have hjl:=(gLt hj)
   obtain ⟨y,hy,he⟩:=hget (i+1+j) hjl
   rw [hj] at hy
   cases hy
   exact h4 (i+1+j) (by omega) (by rw [hsz];exact hjl) (by rw [he];rfl)
  conv=>lhs;rw [hd]
  exact parts_snoc _ _ hn
def zW:Wy:=([],[],0,0)
def wayN (p:Str):Wy × Bool:=
 if (partsAt 47 p).dropLast.all isNameB=true then tailN (partsAt 47 p).dropLast (partsAt 46 ((partsAt 47 p).getLast?.getD [])) else (zW,false)
theorem way_sem (p:Str) (hp:p.length≤1000):Sem Tryz.prog 80 [.str p] (.tup [.agg (wayN p).1.row,.bool (wayN p).2]):=by
 rcases last_cases p with ⟨h1,h2⟩|⟨i,h1,h2,h3⟩
 ·unfold wayN
  rw [h2]
  exact way_none p hp h1
 ·unfold wayN
  rw [h3,List.dropLast_concat,List.getLast?_concat]
  by_cases hn:(partsAt 47 (p.take i)).all isNameB=true
  ·rw [if_pos hn]
   exact way_some p i hp h1 h2 hn
  ·rw [if_neg hn]
   exact way_bad p i hp h1 h2 (by simpa [namesB] using hn)
def pathErr (p:Str):Int:=if 200 < p.length then 2 else if (wayN p).2=true then 0 else 10
theorem checkPath_sem (p:Str):Sem Tryz.prog 56 [.str p] (.int .i64 (pathErr p)):=by
 have h:=fun h:p.length≤1000=>way_sem p h
 unfold pathErr
 generalize wayN p=r at h ⊢
 obtain ⟨w,b⟩:=r
 dsimp only at h ⊢
 unfold Wy.row at h
 refine si [] Tryz.func56 ?_
 repeat'((conv=>whnf);first|(try(first|apply eN|apply eI|apply eC);conv=>whnf);apply sD;(focus first|(refine gx (h (by omega))<;>exact pre)|(refine gx (way_sem ?_ ?_)<;>exact pre)|(refine gx (way_none ?_ ?_ ?_)<;>exact pre)|(refine gx (way_some ?_ ?_ ?_ ?_ ?_ ?_)<;>exact pre)|(refine gx (way_bad ?_ ?_ ?_ ?_ ?_ ?_)<;>exact pre)|exact side)|apply rR|apply rE|apply rH| (apply cD<;>intro hb<;>(try simp only[SPLT]at hb)<;>try exact noB))
 all_goals try exact false
 all_goals (
  repeat' ((conv=>whnf);first|exact endR|with_reducible first|apply And.intro|apply oR|apply oN|apply dC)
  all_goals (conv=>whnf)
  refine rle_int ?_
  clear h
  cases b<;>simp at hb ⊢<;>omega)
theorem within3_sem (n a b:Int):Sem Tryz.prog 134 [.int .i64 n,.int .i64 a,.int .i64 b] (.bool (decide (a≤n) && decide (n≤b))):=by
 refine si [] Tryz.func134 ?_
 repeat'((conv=>whnf);first|(try(first|apply eN);conv=>whnf);apply sD;(focus(try intro hc;have hc0:=hc;(try simp only[SPLT]at hc);try refine and0 ?_);first|exact sideG)|apply rR|apply rE|apply rH| (apply cD<;>intro hb<;>(try simp only[SPLT]at hb)<;>try exact noB))
 all_goals try exact false
 exact finR
theorem counted_sem (s:Str) (hs:s.length≤9223372036854775807):Sem Tryz.prog 133 [.str s,.int .i64 3] (.tup [.int .i64 (numN s).1,.bool (numN s).2]):=by
 by_cases h1:s.length < 1∨3 < s.length∨(1 < s.length∧(s.getD (Int.toNat 0) 0).toNat=48)
 ·have e:numN s=(0,false):=by
   unfold numN
   rw [if_neg]
   unfold canonB headZero
   simp only [Bool.and_eq_true,decide_eq_true_eq,Bool.not_eq_true',Bool.and_eq_false_iff,decide_eq_false_iff_not]
   omega
  rw [e]
  by_cases h0:s = []
  ·subst h0
   refine si [] Tryz.func133 ?_
   repeat'((conv=>whnf);first|(try(first|apply eN|apply eC);conv=>whnf);apply sD;(focus(try intro hc;have hc0:=hc;(try simp only[SPLT]at hc);try refine and0 ?_);first|(refine gx (atoi_sem ?_ ?_ ?_ ?_)<;>exact pre)|exact sideG)|apply rR|apply rE|apply rH| (apply cD<;>intro hb<;>(try simp only[SPLT]at hb)<;>try exact noB))
   all_goals try exact false
   exact finR
  ·refine si [] Tryz.func133 ?_
   repeat'((conv=>whnf);first|(try(first|apply eN|apply eC);conv=>whnf);apply sD;(focus(try intro hc;have hc0:=hc;(try simp only[SPLT]at hc);try refine and0 ?_);first|(refine gx (atoi_sem ?_ ?_ ?_ ?_)<;>exact pre)|exact sideG)|apply rR|apply rE|apply rH| ((apply cD)<;>intro hb<;>(try simp only [SPLT] at hb)<;>(try first|exact noB|((exfalso;simp_all;omega);done))))
   all_goals try exact false
   exact finR
 ·have hne:s ≠ []:=fun e=>by subst e;simp at h1
  have hc:canonB s=s.all digByte:=by
   unfold canonB headZero
   rw [show decide (1≤s.length)=true by simp;omega,show decide (s.length≤3)=true by simp;omega,Bool.true_and,Bool.true_and]
   rw [show (decide (1 < s.length) && decide ((s.getD (Int.toNat 0) 0).toNat=48))=false by simp only [Bool.and_eq_false_iff,decide_eq_false_iff_not];omega]
   rfl
  have hN:numN s=if s.all digByte=true then (valN s,true) else (0,false):=by unfold numN;rw [hc]
  have hA:s.all digByte=true→Sem Tryz.prog 89 [.str s] (.tup [.int .i64 (valN s),.pv .nilIface]):=fun h=>atoi_sem s (valN s) (by omega) (atoi_val (by omega) h)
  generalize numN s=r at hN ⊢
  generalize valN s=v at hA hN
  refine si [] Tryz.func133 ?_
  repeat'((conv=>whnf);first|(try(first|apply eN|apply eC);conv=>whnf);apply sD;(focus(try intro hc;have hc0:=hc;(try simp only[SPLT]at hc);try refine and0 ?_);first|(refine gx (atoi_sem ?_ ?_ ?_ ?_)<;>exact pre)|exact sideG)|apply rR|apply rE|apply rH| ((apply cD)<;>intro hb<;>(try simp only [SPLT] at hb)<;>(try first|exact noB|((exfalso;simp_all;omega);done))))
  all_goals try exact false
  refine loop_go (M:=fun t=>mem t []) hT hM (fun k:Nat => [(6,.int .i64 k)]) (fun k=>k≤s.length∧(s.take k).all digByte=true) (fun k=>s.length - k) (0) ?_ ?_ ?_
  ·exact finF
  ·exact ⟨by omega,rfl⟩
  ·rintro k ⟨hk,hall⟩
   cases hx:s[k]? with
   |none=>
    have hm:=List.getElem?_eq_none_iff.1 hx
    rw [List.take_of_length_le hm] at hall
    have hA:=hA hall
    rw [if_pos hall] at hN
    subst hN
    repeat'((conv=>whnf);first|(try(first|apply eN|apply eC);conv=>whnf);apply sD;(focus(try intro hc;have hc0:=hc;(try simp only[SPLT]at hc);try refine and0 ?_);first|exact gx hA|(refine gx (atoi_sem ?_ ?_ ?_ ?_)<;>exact pre)|exact sideG)|apply rR|apply rE|apply rH| (apply cD<;>intro hb<;>(try simp only[SPLT]at hb)<;>try exact noB))
    all_goals try exact false
    exact finR
   |some x=>
    have hlt:=(gLt hx)
    repeat'((conv=>whnf);first|(try(first|apply eN|apply eC);conv=>whnf);apply sD;(focus(try intro hc;have hc0:=hc;(try simp only[SPLT]at hc);try refine and0 ?_);first|(refine gx (atoi_sem ?_ ?_ ?_ ?_)<;>exact pre)|exact sideG)|apply rR|apply rE|apply rH| (apply cD<;>intro hb<;>(try simp only[SPLT]at hb)<;>try exact noB))
    all_goals try exact false
    ·simp [List.getD_eq_getElem?_getD,hx] at hb
     have hf:s.all digByte=false:=by
      rw [List.all_eq_false]
      exact ⟨x,gMem hx,by simp [digByte];omega⟩
     rw [hf] at hN
     subst hN
     exact finR
    ·refine ⟨k+1,⟨by omega,?_⟩,by omega,?_⟩
     ·simp [List.getD_eq_getElem?_getD,hx] at hb
      have:digByte x=true:=by simp [digByte];omega
      rw [take_at hx,List.all_append,hall]
      simp [this]
     ·exact finF
theorem small_sem (s:Str) (m:Int) (hs:s.length≤9223372036854775807):Sem Tryz.prog 107 [.str s,.int .i64 m] (.tup [.int .i64 (numN s).1,.bool (numB s m)]):=by
 have h:=counted_sem s hs
 unfold numB outR
 generalize numN s=r at h ⊢
 obtain ⟨n,o⟩:=r
 dsimp only at h ⊢
 have hw:=within3_sem n 1 m
 refine si [] Tryz.func107 ?_
 repeat'((conv=>whnf);first|(try(first|apply eN|apply eC);conv=>whnf);apply sD;(focus(try intro hc;have hc0:=hc;(try simp only[SPLT]at hc);try refine and0 ?_);first|exact gx h|exact gx hw|(refine gx (counted_sem ?_ ?_)<;>exact pre)|(refine gx (within3_sem ?_ ?_ ?_)<;>exact pre)|exact sideG)|apply rR|apply rE|apply rH| (apply cD<;>intro hb<;>(try simp only[SPLT]at hb)<;>try exact noB))
 all_goals try exact false
 repeat' ((conv=>whnf);first|exact endR|with_reducible first|apply And.intro|apply oR|apply oN|apply dC)
 all_goals (conv=>whnf)
 refine rle_bool ?_
 by_cases h1:n < 1<;>by_cases h2:m < n<;>cases o<;>simp [h1,h2]<;>omega
set_option maxHeartbeats 4000000
def ownErr (k:Int) (nk:Nat) (p:Str) (vs:List Str) (lo hi:Int):Int:=
 if k < 1∨9 < k then 4 else if formB k nk p vs.length lo hi=true then 3
 else if overB k=true then (if groupsErr p ≠ 0 then groupsErr p else if p = [] then 9 else 0)
 else if 4≤k∧pathErr p ≠ 0 then pathErr p
 else if k=5 then valuesErr vs else if k=6∨k=9 then endsErr k lo hi else 0
theorem ownFault_sem (k:Int) (rows:List (List D)) (p:Str) (vs:List Str) (lo hi:Int):Sem Tryz.prog 28 [.agg [.int .i64 k,.sl 0 6 rows,.str p,.sl 0 1 (vs.map fun s => [.str s]),.int .i64 lo,.int .i64 hi]] (.int .i64 (ownErr k rows.length p vs lo hi)):=by
 have h1:=checkPath_sem p
 have h2:=formFault_sem k rows p (vs.map fun s => [.str s]) lo hi
 rw [List.length_map] at h2
 have h3:=usesOf_sem k
 have h4:=isOver_sem k
 have h5:=outsideK_sem k 1 9
 have h6:=checkGroups_sem p
 have h7:=valuesFault_sem vs
 have h8:=endsFault_sem k rows p (vs.map fun s => [.str s]) lo hi
 have hr:ownErr k rows.length p vs lo hi=if k < 1∨9 < k then 4 else if formB k rows.length p vs.length lo hi=true then 3
  else if overB k=true then (if groupsErr p ≠ 0 then groupsErr p else if p = [] then 9 else 0)
  else if 4≤k∧pathErr p ≠ 0 then pathErr p
  else if k=5 then valuesErr vs else if k=6∨k=9 then endsErr k lo hi else 0:=rfl
 generalize ownErr k rows.length p vs lo hi=r at hr ⊢
 generalize pathErr p=pe at h1 hr
 generalize groupsErr p=ge at h6 hr
 generalize valuesErr vs=ve at h7 hr
 generalize endsErr k lo hi=ee at h8 hr
 generalize formB k rows.length p vs.length lo hi=fb at h2 hr
 generalize usesOfB k=ub at h3
 generalize overB k=ob at h4 hr
 refine si [3,2000003,1000016] Tryz.func28 ?_
 repeat'((conv=>whnf);first|(try(first|apply eN|apply eI|apply eC);conv=>whnf);apply sD;(focus first|exact gx h1|exact gx h2|exact gx h3|exact gx h4|exact gx h5|exact gx h6|exact gx h7|exact gx h8|(refine gx (outR_sem ?_ ?_)<;>exact pre)|(refine gx (outsideK_sem ?_ ?_ ?_)<;>exact pre)|(refine gx (formFault_sem ?_ ?_ ?_ ?_ ?_ ?_)<;>exact pre)|(refine gx (usesOf_sem ?_)<;>exact pre)|(refine gx (isOver_sem ?_)<;>exact pre)|(refine gx (checkGroups_sem ?_)<;>exact pre)|(refine gx (checkPath_sem ?_)<;>exact pre)|(refine gx (valuesFault_sem ?_)<;>exact pre)|(refine gx (endsFault_sem ?_ ?_ ?_ ?_ ?_ ?_)<;>exact pre)|exact side)|apply rR|apply rE|apply rH| (apply cD<;>intro hb<;>(try simp only[SPLT]at hb)<;>try exact noB))
 all_goals try exact false
 all_goals (
  repeat' ((conv=>whnf);first|exact endR|with_reducible first|apply And.intro|apply oR|apply oN|apply dC)
  all_goals (conv=>whnf)
  refine rle_int ?_
  rw [hr]
  clear h1 h2 h3 h4 h5 h6 h7 h8 hr
  repeat' split
  all_goals first|omega|rfl|(simp_all;done)|(simp_all;omega))
mutual
def Cond.chk:Cond→Int→Int→Int × Int
 |.mk k ks p vs lo hi,d,n=>if 200 < n+1∨6 < d then (n+1,2) else if ownErr k ks.length p vs lo hi ≠ 0 then (n+1,ownErr k ks.length p vs lo hi) else Cond.chks ks (d+1) (n+1)
def Cond.chks:List Cond→Int→Int→Int × Int
 |[],_,n=>(n,0)
 |c::l,d,n=>if (c.chk d n).2 ≠ 0 then c.chk d n else Cond.chks l d (c.chk d n).1
end
theorem chk_mk (k:Int) (ks:List Cond) (p:Str) (vs:List Str) (lo hi:Int) (d n:Int):(Cond.mk k ks p vs lo hi).chk d n=if 200 < n+1∨6 < d then (n+1,2) else if ownErr k ks.length p vs lo hi ≠ 0 then (n+1,ownErr k ks.length p vs lo hi) else Cond.chks ks (d+1) (n+1):=by
 rw [Cond.chk]
theorem chks_at {l:List Cond} {i:Nat} {c:Cond} (h:l[i]?=some c) (d n:Int):Cond.chks (l.drop i) d n=if (c.chk d n).2 ≠ 0 then c.chk d n else Cond.chks (l.drop (i+1)) d (c.chk d n).1:=by
 rw [List.drop_eq_getElem_cons (gLt h),(List.getElem?_eq_some_iff.1 h).2,Cond.chks]
attribute [irreducible] Cond.chk Cond.chks
theorem chks_nil (d n:Int):Cond.chks [] d n=(n,0):=by rw [Cond.chks]
theorem chks_bd {d:Int}:∀ (l:List Cond),(∀ c ∈ l,∀ n,n≤200→n < (c.chk d n).1∧((c.chk d n).2=0→(c.chk d n).1≤200))→∀ n,n≤200→n≤(Cond.chks l d n).1∧((Cond.chks l d n).2=0→(Cond.chks l d n).1≤200)
 |[],_,n,h=>by rw [chks_nil];exact ⟨Int.le_refl _,fun _=>h⟩
 |c::l,hc,n,h=>by
  obtain ⟨h1,h2⟩:=hc c (by simp) n h
  rw [Cond.chks]
  by_cases he:(c.chk d n).2=0
  ·rw [if_neg (by simp [he])]
   obtain ⟨h3,h4⟩:=chks_bd l (fun x hx=>hc x (by simp [hx])) _ (h2 he)
   exact ⟨by omega,h4⟩
  ·rw [if_pos he]
   exact ⟨by omega,fun e=>absurd e he⟩
theorem chk_bd (c:Cond):∀ d n:Int,n≤200→n < (c.chk d n).1∧((c.chk d n).2=0→(c.chk d n).1≤200):=by
 induction c using Cond.ind with
 |h k ks p vs lo hi ih=>
  intro d n hn
  rw [chk_mk]
  split
  ·exact ⟨by dsimp only;omega,fun e=>by cases e⟩
  ·split
   ·rename_i he
    exact ⟨by dsimp only;omega,fun e=>absurd e he⟩
   ·obtain ⟨h1,h2⟩:=chks_bd (d:=d+1) ks (fun c hc n hn=>ih c hc (d+1) n hn) (n+1) (by omega)
    exact ⟨by omega,h2⟩
theorem cond_sem (c:Cond):∀ d n:Int,0≤n→n≤200→0≤d→d≤1000→SemO Tryz.prog 16 (.obj [.int .i64 n]) [.agg c.row,.int .i64 d] (.int .i64 (c.chk d n).2) (some (.obj [.int .i64 (c.chk d n).1])):=by
 induction c using Cond.ind with
 |h k ks p vs lo hi ih=>
  intro d n hn0 hn hd0 hd
  have h1:=ownFault_sem k (ks.map Cond.row) p vs lo hi
  rw [List.length_map] at h1
  rw [chk_mk,Cond.row_mk]
  generalize ownErr k ks.length p vs lo hi=e at h1 ⊢
  generalize hr:(if 200 < n+1∨6 < d then (n+1,(2:Int)) else if e ≠ 0 then (n+1,e) else Cond.chks ks (d+1) (n+1))=r
  refine semO_intro (M:=fun t=>mem t [0,9,1000016]) hT hM Tryz.func16 inferInstance rfl rfl rfl rfl rfl rfl rfl rfl rfl ?_
  repeat'((conv=>whnf);first|(try(first|apply eN|apply eI|apply eC);conv=>whnf);apply sD;(focus(try intro hc;have hc0:=hc;(try simp only[SPLT]at hc);try refine and0 ?_);first|exact gx h1|(refine gx (ownFault_sem ?_ ?_ ?_ ?_ ?_ ?_)<;>exact pre)|exact sideG)|((with_reducible apply CallO.go);(conv=>whnf);(with_reducible apply sD);(focus (first|((apply giveso_go (condO_sem _ _ _ _ _ _ _));(focus (first|exact rfl|(simp;done)));(focus (exact DLes.au));exact rfl;(all_goals (exact pre))))))|apply rR|apply rE|apply rH| (apply cD<;>intro hb<;>(try simp only[SPLT]at hb)<;>try exact noB))
  all_goals try exact false
  ·rw [if_pos (by omega)] at hr
   subst hr
   exact finR
  ·rw [if_neg (by omega),if_pos (by omega)] at hr
   subst hr
   exact finR
  ·have hll:(ks.map Cond.row).length=ks.length:=List.length_map _
   rw [if_neg (by omega),if_neg (by omega)] at hr
   refine loop_go (M:=fun t=>mem t [0,9,1000016]) hT hM (fun x:Nat × Int => [(35,.int .i64 x.1),(0,.obj [.int .i64 x.2])]) (fun x=>x.1≤ks.length∧n+1+x.1≤x.2∧x.2≤200∧Cond.chks (ks.drop x.1) (d+1) x.2=r) (fun x=>ks.length - x.1) ((0,n+1)) ?_ ?_ ?_
   ·exact finF
   ·exact ⟨Nat.zero_le _,by dsimp only;omega,by dsimp only;omega,hr⟩
   ·rintro ⟨i,m⟩ ⟨hi,hm1,hm2,hv⟩
    dsimp only at hi hm1 hm2 hv ⊢
    cases hx:ks[i]? with
    |none=>
     have hm:=List.getElem?_eq_none_iff.1 hx
     rw [List.drop_of_length_le hm,chks_nil] at hv
     subst hv
     repeat'((conv=>whnf);first|(try(first|apply eN|apply eI|apply eC);conv=>whnf);apply sD;(focus(try intro hc;have hc0:=hc;(try simp only[SPLT]at hc);try refine and0 ?_);first|(refine gx (ownFault_sem ?_ ?_ ?_ ?_ ?_ ?_)<;>exact pre)|exact sideG)|((with_reducible apply CallO.go);(conv=>whnf);(with_reducible apply sD);(focus (first|((apply giveso_go (condO_sem _ _ _ _ _ _ _));(focus (first|exact rfl|(simp;done)));(focus (exact DLes.au));exact rfl;(all_goals (exact pre))))))|apply rR|apply rE|apply rH| (apply cD<;>intro hb<;>(try simp only[SPLT]at hb)<;>try exact noB))
     all_goals try exact false
     exact finR
    |some x=>
     have hlt:=(gLt hx)
     obtain ⟨hb1,hb2⟩:=chk_bd x (d+1) m hm2
     have ih':=ih x (gMem hx) (d+1) m (by omega) hm2 (by omega) (by omega)
     rw [chks_at hx] at hv
     generalize x.chk (d+1) m=y at hv ih' hb1 hb2
     obtain ⟨m2,e2⟩:=y
     obtain ⟨k1,ks1,p1,vs1,lo1,hi1⟩:=x
     rw [Cond.row_mk] at ih'
     dsimp only at hv ih' hb1 hb2
     repeat'((conv=>whnf);first|(try(first|apply eN|apply eI|apply eC);conv=>whnf);apply sD;(focus(try intro hc;have hc0:=hc;(try simp only[SPLT]at hc);try refine and0 ?_);first|(exact idx_row hx rfl)|(refine gx (ownFault_sem ?_ ?_ ?_ ?_ ?_ ?_)<;>exact pre)|exact sideG)|((with_reducible apply CallO.go);(conv=>whnf);(with_reducible apply sD);(focus (first|((apply giveso_go (ih'));(focus (first|exact rfl|(simp;done)));(focus (exact DLes.au));exact rfl;(all_goals (exact pre))))))|apply rR|apply rE|apply rH| (apply cD<;>intro hb<;>(try simp only[SPLT]at hb)<;>try exact noB))
     all_goals try exact false
     ·rw [if_pos (by omega)] at hv
      subst hv
      exact finR
     ·rw [if_neg (by omega)] at hv
      refine ⟨(i+1,m2),⟨by dsimp only;omega,by dsimp only;omega,by dsimp only;omega,hv⟩,by dsimp only;omega,?_⟩
      exact finF
theorem condO_sem (c:Cond) (d n:Int) (h0:0≤n) (h1:n≤200) (h2:0≤d) (h3:d≤1000):SemO Tryz.prog 16 (.obj [.int .i64 n]) [.agg c.row,.int .i64 d] (.int .i64 (c.chk d n).2) (some (.obj [.int .i64 (c.chk d n).1])):=cond_sem c d n h0 h1 h2 h3
def Cond.err (c:Cond):Int:=(c.chk 0 0).2
theorem checkCond_sem (c:Cond):Sem Tryz.prog 8 [.agg c.row] (.int .i64 c.err):=by
 have h:=cond_sem c 0 0 (by omega) (by omega) (by omega) (by omega)
 unfold Cond.err
 generalize c.chk 0 0=y at h ⊢
 obtain ⟨m,e⟩:=y
 obtain ⟨k,ks,p,vs,lo,hi⟩:=c
 rw [Cond.row_mk] at h ⊢
 dsimp only at h ⊢
 refine si [4,1000016] Tryz.func8 ?_
 repeat'((conv=>whnf);first|(try(first|apply eN|apply eI|apply eC);conv=>whnf);apply sD;(focus first|exact side)|((with_reducible apply CallO.go);(conv=>whnf);(with_reducible apply sD);(focus (first|((apply giveso_go (h));(focus (first|exact rfl|(simp;done)));(focus (exact DLes.au));exact rfl;(all_goals (exact pre))))))|apply rR|apply rE|apply rH| (apply cD<;>intro hb<;>(try simp only[SPLT]at hb)<;>try exact noB))
 all_goals try exact false
 exact finR
inductive Cond.Txt:Cond→Prop where
 |mk {k:Int} {ks:List Cond} {p:Str} {vs:List Str} {lo hi:Int} (hp:p.length≤9223372036854775807) (hv:∀ v ∈ vs,v.length≤9223372036854775807) (hk:∀ x ∈ ks,x.Txt):(Cond.mk k ks p vs lo hi).Txt
def escB (x:UInt8):Str:=if x=34∨x=92 then [92,x] else [x]
def escS (s:Str):Str:=s.flatMap escB
def quoteS (s:Str):Str:=34::(escS s ++ [34])
def commaJ (l:List Str):Str:=Lib.join l [44,32]
def fromTo (lo hi:Int):Str := [32,102,114,111,109,32]++Lib.itoa lo ++ [32,116,111,32]++Lib.itoa hi
mutual
def Cond.text:Cond→Str
 |.mk k ks p vs lo hi=>
  if k=1 then [97,108,108,40]++commaJ (Cond.texts ks) ++ [41]
  else if k=2 then [97,110,121,40]++commaJ (Cond.texts ks) ++ [41]
  else if k=3 then [110,111,116,40]++commaJ (Cond.texts ks) ++ [41]
  else if k=4 then [116,104,101,114,101,32]++p
  else if k=6 then [99,111,117,110,116,32]++p++fromTo lo hi
  else if k=9 then p++fromTo lo hi
  else if k=7 then [101,97,99,104,32]++p ++ [32,40]++commaJ (Cond.texts ks) ++ [41]
  else if k=8 then [115,111,109,101,32]++p ++ [32,40]++commaJ (Cond.texts ks) ++ [41]
  else p ++ [32,105,110,32,40]++commaJ (vs.map quoteS) ++ [41]
def Cond.texts:List Cond→List Str
 |[] => []
 |c::l=>c.text::Cond.texts l
end
theorem texts_map (l:List Cond):Cond.texts l=l.map Cond.text:=by
 induction l with
 |nil=>rw [Cond.texts,List.map_nil]
 |cons c l ih=>rw [Cond.texts,List.map_cons,ih]
theorem escS_at {s:Str} {k:Nat} {x:UInt8} (h:s[k]?=some x):escS (s.take (k+1))=escS (s.take k)++escB x:=by
 unfold escS
 rw [List.take_add_one,h,Option.toList_some,List.flatMap_append]
 simp
theorem escB_len (x:UInt8):(escB x).length≤2:=by
 unfold escB
 split<;>simp
theorem escS_len (s:Str):(escS s).length≤2 * s.length:=by
 induction s with
 |nil=>simp [escS]
 |cons x s ih=>
  have h:=escB_len x
  unfold escS at ih ⊢
  rw [List.flatMap_cons,List.length_append,List.length_cons]
  omega
theorem commaJ_snoc (l:List Str) (x:Str) (h:l ≠ []):commaJ (l ++ [x])=commaJ l ++ [44,32]++x:=by
 cases l with
 |nil=>exact absurd rfl h
 |cons y r=>
  unfold commaJ
  rw [List.cons_append,Lib.join_cons,Lib.join_cons]
  simp [Lib.joinTail]
inductive Cond.Wr:Cond→Prop where
 |mk {k:Int} {ks:List Cond} {p:Str} {vs:List Str} {lo hi:Int} (hp:p.length≤1000) (hv:vs.length≤1000∧∀ v ∈ vs,v.length≤1000) (hk:ks.length≤1000) (hlo : -9223372036854775808≤lo∧lo≤9223372036854775807) (hhi : -9223372036854775808≤hi∧hi≤9223372036854775807) (h:∀ x ∈ ks,x.Wr):(Cond.mk k ks p vs lo hi).Wr
set_option maxHeartbeats 8000000
def sp (s:Str):Nat:=s.count 34+s.count 92
theorem sp_snoc (s:Str) (c:UInt8):sp (s ++ [c])=sp s+(if c=34∨c=92 then 1 else 0):=by
 unfold sp
 rw [List.count_append,List.count_append,List.count_singleton,List.count_singleton]
 by_cases h1:c=34
 ·subst h1;simp;omega
 ·by_cases h2:c=92
  ·subst h2;simp;omega
  ·simp [h1,h2]
theorem sp_take {s:Str} {k:Nat} {c:UInt8} (h:s[k]?=some c):sp (s.take (k+1))=sp (s.take k)+(if c=34∨c=92 then 1 else 0):=by
 obtain ⟨hl,rfl⟩:=List.getElem?_eq_some_iff.1 h
 rw [List.take_succ_eq_append_getElem hl,sp_snoc]
theorem sp_le (s:Str) (k:Nat):sp (s.take k)≤sp s:=by
 unfold sp
 have h1:(s.take k).count 34≤s.count 34:=(List.take_sublist k s).count_le 34
 have h2:(s.take k).count 92≤s.count 92:=(List.take_sublist k s).count_le 92
 omega
theorem sp_len (s:Str):sp s≤2 * s.length:=by
 unfold sp
 have h1:s.count 34≤s.length:=List.count_le_length
 have h2:s.count 92≤s.length:=List.count_le_length
 omega
theorem escS_len' (s:Str):(escS s).length=s.length+sp s:=by
 induction s with
 |nil=>rfl
 |cons c s ih=>
  have e:escS (c::s)=escB c++escS s:=rfl
  have h:sp (c::s)=sp s+(if c=34∨c=92 then 1 else 0):=by
   unfold sp
   rw [List.count_cons,List.count_cons]
   by_cases h1:c=34
   ·subst h1;simp;omega
   ·by_cases h2:c=92
    ·subst h2;simp;omega
    ·simp [h1,h2]
  rw [e,List.length_append,ih,List.length_cons,h]
  unfold escB
  split<;>simp<;>omega
theorem escS_none {s:Str} (h:sp s=0):escS s=s:=by
 induction s with
 |nil=>rfl
 |cons c s ih=>
  have e:escS (c::s)=escB c++escS s:=rfl
  unfold sp at h
  rw [List.count_cons,List.count_cons] at h
  have h1:c ≠ 34:=fun e=>by subst e;simp at h
  have h2:c ≠ 92:=fun e=>by subst e;simp at h
  rw [e,ih (by unfold sp;omega)]
  unfold escB
  rw [if_neg (by simp [h1,h2])]
  rfl
structure TabR (b:Nat) (w:World):Prop where
 row:∀ j,j < 2→∃ b1 c1,w.cell? ⟨b,oB j,none⟩=some (.slice (some ⟨b1,0,none⟩) 2 c1)∧RowAt w b1 0 (u8s (nB j))
 rest:∀ k,k < 256→k ≠ 34→k ≠ 92→w.cell? ⟨b,k,none⟩=some (.slice none 0 0)
 list:∃ bt ct,w.cell? ⟨b,256,none⟩=some (.slice (some ⟨bt,0,none⟩) 2 ct)∧RowAt w bt 0 [st [34],st [92]]
theorem TabR.ext {b:Nat} {w w':World} (h:TabR b w) (hx:Ext w w'):TabR b w':=by
 refine ⟨fun j hj => ?_,fun k h1 h2 h3=>hx.cell (h.rest k h1 h2 h3),?_⟩
 ·obtain ⟨b1,c1,h1,h2⟩:=h.row j hj
  exact ⟨b1,c1,hx.cell h1,h2.ext hx⟩
 ·obtain ⟨bt,ct,h1,h2⟩:=h.list
  exact ⟨bt,ct,hx.cell h1,h2.ext hx⟩
theorem TabAt.read {B b:Nat} {w:World} (h:TabAt B b w):TabR b w:=by
 obtain ⟨cs,v,hT,hv,ho⟩:=h
 refine ⟨fun j hj => ?_,fun k h1 h2 h3 => ?_,?_⟩
 ·obtain ⟨b1,c1,cur,fz,h1,_,_,h4⟩:=hT.done j hj
  exact ⟨b1,c1,(hT.blk.cell _).trans (by rw [List.getElem?_toArray];exact h1),h4⟩
 ·refine (hT.blk.cell _).trans ?_
  rw [List.getElem?_toArray]
  refine hT.rest k h1 fun j hj => ?_
  unfold oB
  split<;>omega
 ·obtain ⟨A,c,rfl,h1,h2,h3,h4⟩:=ho.slr
  obtain ⟨_,bt,o,h5,h6⟩:=h4 0 [st [34]] rfl
  obtain ⟨_,bt',o',h5',h6'⟩:=h4 1 [st [92]] rfl
  rw [h5] at h5'
  cases h5'
  obtain ⟨_,h7⟩:=ho.own
  have ho0:o=0:=by
   rcases h7 with ⟨h8,_⟩|⟨g,cap,cur,h8,_⟩
   ·rw [h5] at h8;cases h8
   ·rw [h5] at h8;cases h8;rfl
  subst ho0
  subst h5
  refine ⟨bt,c,(hT.blk.cell _).trans (by rw [List.getElem?_toArray];exact hv),fun j u hu => ?_⟩
  match j,hu with
  |0,hu=>have:=h6 0 u hu;simpa using this
  |1,hu=>have:=h6' 0 u hu;simpa using this
  |j+2,hu=>simp at hu
theorem TabR.at {b:Nat} {w:World} (h:TabR b w) (c:UInt8):∃ v,w.cell? ⟨b,c.toNat,none⟩=some v∧((c=34∨c=92)∧(∃ b1 c1,v=.slice (some ⟨b1,0,none⟩) 2 c1∧RowAt w b1 0 (u8s [92,c]))∨¬ (c=34∨c=92)∧v=.slice none 0 0):=by
 by_cases h1:c=34
 ·subst h1
  obtain ⟨b1,c1,h2,h3⟩:=h.row 0 (by omega)
  exact ⟨_,h2,.inl ⟨.inl rfl,b1,c1,rfl,h3⟩⟩
 ·by_cases h2:c=92
  ·subst h2
   obtain ⟨b1,c1,h2,h3⟩:=h.row 1 (by omega)
   exact ⟨_,h2,.inl ⟨.inr rfl,b1,c1,rfl,h3⟩⟩
  ·refine ⟨_,h.rest c.toNat c.toNat_lt (fun e=>h1 (UInt8.toNat_inj.1 e)) (fun e=>h2 (UInt8.toNat_inj.1 e)),.inr ⟨by simp [h1,h2],rfl⟩⟩
def Buf (w:World) (g n:Nat) (t:Str):Prop:=∃ cur,Blk w g 5 cur∧cur.size=n∧cur.toList.take t.length=u8s t
theorem Blk.setCell {w:World} {g:Nat} {t:TypeId} {cur:Array Value} (h:Blk w g t cur) (i:Nat) (v:Value):Blk (w.setCell ⟨g,i,none⟩ v) g t (cur.setIfInBounds i v):=by
 unfold Blk at h ⊢
 simp only [World.setCell,Array.getElem?_modify,if_true,h]
 rfl
theorem Buf.put {n:Nat} {t:Str} {cur:Array Value} (hs:cur.size=n) (hc:cur.toList.take t.length=u8s t) (hl:t.length < n) (x:UInt8):
  (cur.setIfInBounds t.length (.int .u8 x.toNat)).size=n∧(cur.setIfInBounds t.length (.int .u8 x.toNat)).toList.take (t ++ [x]).length=u8s (t ++ [x]):=by
 refine ⟨by simpa using hs,?_⟩
 have hlt:t.length < cur.toList.length:=by simpa [hs] using hl
 rw [Array.toList_setIfInBounds,List.length_append,List.length_singleton,List.take_add_one,List.take_set_of_le (Nat.le_refl _),hc,List.getElem?_set_self hlt]
 simp [u8s]
theorem putA {cur:Array Value} {i:Nat} {v:Value} (h:i < cur.size):(cur.toList.take i ++ [v]++cur.toList.drop (i+1)).toArray=cur.setIfInBounds i v:=by
 apply Array.ext'
 rw [Array.toList_setIfInBounds,List.set_eq_take_append_cons_drop,if_pos (by rw [Array.length_toList];exact h)]
 simp
section
variable {P:Program} {Q:Exit→Act→World→Prop} {K:Act→World→Prop} {a:Act} {w:World}
 {dst:Option Tmp} {ty:TypeId} {pos:String} {after:Array Edge} {guard:Option (Nat × Bool)} {ops:Array Oper} {rest:List Oper} {ss:List Spec} {fs:List (World→Prop)}
theorem r_sliceFrom {t e:Nat} [TSlice P t e] [TSize P e 1] {x o:Operand} {b l c j:Nat} (hx:a.eval x=.slice (some ⟨b,0,none⟩) l c) (ho:a.eval o=.int .i64 j) (hj:j < l) (hc:l≤c)
  (hk:K (a.put dst (.slice (some ⟨b,j,none⟩) (l - j) (c - j))) w):(Oper.mk dst (.slice t x (some o) none none) ty pos after guard).wp P a w K Q:=by
 refine r_slice_sl (l:=j) (h:=l) hx ⟨.i64,ho⟩ rfl (by omega) (Nat.le_refl _) hc ?_
 rw [if_neg (by omega),Option.map_some,show (⟨b,0,none⟩:Addr).add (j * 1)=⟨b,j,none⟩ by unfold Addr.add;split<;>simp_all]
 exact hk
theorem r_copy2 {t e:Nat} [TSlice P t e] [TSize P e 1] {x y:Operand} {b j l c b1 c1:Nat} {u v:Value} (hx:a.eval x=.slice (some ⟨b,j,none⟩) l c) (hy:a.eval y=.slice (some ⟨b1,0,none⟩) 2 c1) (hl:2≤l) (hs:RowAt w b1 0 [u,v]) (h1:u.oneCell'=true) (h2:v.oneCell'=true)
  {cur:Array Value} {t':TypeId} (hb:Blk w b t' cur) (hn:j+1 < cur.size) (hr:K (a.put dst (.int .i64 2)) ((w.setCell ⟨b,j,none⟩ u).setCell ⟨b,j+1,none⟩ v)):(Oper.mk dst (.call ⟨.builtin .copy,#[x,y],#[t,t]⟩) ty pos after none).wp P a w K Q:=by
 have hrun:=run_copy_cells (P:=P) w t t ty e b j l c ⟨b1,0,none⟩ 2 c1 [u,v] (TSlice.h (P:=P) (t:=t) (e:=e)) (TSize.sz (P:=P) (t:=e) (n:=1)) (by simp [Nat.min_def];omega) (fun k y hk=>by
  rw [show (⟨b1,0,none⟩:Addr).add k=⟨b1,0+k,none⟩ by unfold Addr.add;split<;>simp_all]
  exact hs k y hk) (fun k hk=>by
  rw [hb.cell]
  have hk':k < 2:=hk
  simp
  omega) (fun k _=>hb.frozen _) (fun y hy=>by
  simp only [List.mem_cons,List.not_mem_nil,or_false] at hy
  rcases hy with rfl|rfl
  ·exact h1
  ·exact h2)
 unfold Oper.wp
 rw [show (execOp a.eval (Oper.mk dst (.call ⟨.builtin .copy,#[x,y],#[t,t]⟩) ty pos after none)).run P w=.ok (.value (.int .i64 2)) ((w.setCell ⟨b,j,none⟩ u).setCell ⟨b,j+1,none⟩ v) by
  simp only [execOp,resolve,invoke,builtin,Sem.run_bind,Sem.run_pure,Result.andThen_ok,List.map_toArray,List.map_cons,List.map_nil,hx,hy,hrun]
  rfl]
 exact hr
end
/-! One operation among the others writes a block of one's own. -/
section
variable {P:Program} {Q:Exit→Act→World→Prop} {a:Act} {w0:World} {ops:Array Oper} {rest:List Oper} {ss:List Spec} {fs:List (World→Prop)} {W:Ways} {i:Nat}
theorem w_val {o:Oper} {v:Value} (hg:o.guard=none) (hic:i ≠ W.c) (h:∀ w,W.R w0 w→∀ K:Act→World→Prop,K (a.put o.dst v) w→o.wp P a w K (NoPanic Q)) (hr:ParW P ops Q W w0 (i+1) rest ss (fs ++ [fun _=>True]) (a.put o.dst v)):ParW P ops Q W w0 i (o::rest) (Spec.det v::ss) fs a:=by
 refine ⟨fun w hw _ => ?_,fun _ _ _ _ _ h=>h,fun u=>hr⟩
 unfold Ways.sees at hw
 rw [if_neg hic] at hw
 unfold StepG
 rw [if_pos (by unfold Region.wanted;rw [hg])]
 intro K hK
 exact .inl (h w hw K (hK (0,0,undef) w trivial (W.self i w)))
theorem w_do {o:Oper} {v:Value} {R:World→Prop} (hm:∀ w w',Ext w w'→R w→R w') (hg:o.guard=none) (hic:i=W.c) (hl:W.late i=true) (h:∀ w,Ext w0 w→∀ K:Act→World→Prop,(∀ w',R w'→W.R w w'→K (a.put o.dst v) w')→o.wp P a w K (NoPanic Q))
  (hr:ParW P ops Q W w0 (i+1) rest ss (fs ++ [R]) (a.put o.dst v)):ParW P ops Q W w0 i (o::rest) (⟨fun _=>v,fun _=>R,fun _=>hm⟩::ss) fs a:=by
 refine ⟨fun w hw _ => ?_,fun h=>(by rw [hl] at h;cases h),fun u=>hr⟩
 unfold Ways.sees at hw
 rw [if_pos hic] at hw
 unfold StepG
 rw [if_pos (by unfold Region.wanted;rw [hg])]
 intro K hK
 refine .inl (h w hw K fun w' hr hR=>hK (0,0,undef) w' hr ?_)
 unfold Ways.does
 rw [if_pos hic]
 exact hR
theorem w_nil (h:∀ w,W.R w0 w→(∀ f ∈ fs,f w)→Q .normal a w):ParW P ops Q W w0 i [] [] fs a:=by
 unfold ParW
 exact h
end
structure Bel (g:Nat) (w w':World):Prop where
 os:w'.os=w.os
 tape:w'.tape=w.tape
 output:w'.output=w.output
 size:w.heap.size≤w'.heap.size
 block:∀ k,k < w.heap.size→k ≠ g→w'.heap[k]?=w.heap[k]?
theorem Bel.of {g:Nat} {w w':World} (h:Ext w w'):Bel g w w':=⟨h.os,h.tape,h.output,h.size,fun k hk _=>h.block hk⟩
theorem Bel.trans {g:Nat} {a b c:World} (h:Bel g a b) (k:Bel g b c):Bel g a c:=
 ⟨k.os.trans h.os,k.tape.trans h.tape,k.output.trans h.output,Nat.le_trans h.size k.size,fun j hj hn=>(k.block j (Nat.lt_of_lt_of_le hj h.size) hn).trans (h.block j hj hn)⟩
theorem Bel.setCell {g i:Nat} (w:World) (v:Value):Bel g w (w.setCell ⟨g,i,none⟩ v):=
 ⟨rfl,rfl,rfl,by simp [World.setCell],fun k _ hk=>Below.heap_setCell _ _ _ _ hk⟩
theorem Bel.cell {g b i:Nat} {w w':World} {v:Value} (h:Bel g w w') (hb:b ≠ g) (hc:w.cell? ⟨b,i,none⟩=some v):w'.cell? ⟨b,i,none⟩=some v:=
 (World.cell?_of_block (w:=w) (w':=w') (a:=⟨b,i,none⟩) (h.block b (block_lt_of_cell hc) hb)).trans hc
theorem Bel.ext {g:Nat} {w0 w w':World} (h:Bel g w w') (hx:Ext w0 w) (hg:w0.heap.size≤g):Ext w0 w':=
 ⟨h.os.trans hx.os,h.tape.trans hx.tape,h.output.trans hx.output,Nat.le_trans hx.size h.size,fun k hk=>(h.block k (Nat.lt_of_lt_of_le hk hx.size) (by omega)).trans (hx.block hk)⟩
def waysB (g c:Nat):Ways:=⟨Bel g,c,fun i=>decide (i=c) || decide (i=c+1),fun _ _ h=>Bel.of h,fun _ _ _ h k=>h.trans k⟩
set_option maxHeartbeats 1000000
def strJ (s:Str):List D := [.str s]
theorem join_sem (l:List Str) (hl:l.length≤100000) (hb:(commaJ l).length≤140737488355328):Sem Tryz.prog 24 [.sl 0 1 (l.map strJ),.str [44,32]] (.str (commaJ l)):=by
 refine ⟨inferInstance,rfl,fun S w vs hw hvl hr => ?_⟩
 obtain ⟨v,u,rfl⟩:∃ a b,vs = [a,b]:=by
  match vs,hvl with
  |[a,b],_=>exact ⟨a,b,rfl⟩
 have f0:=(hr 0 _ v rfl rfl).passes rfl
 obtain rfl:u=.string ⟨[44,32].toArray⟩:=(hr 1 _ u rfl rfl).str_inv
 have hxs:(l.map fun s=>(⟨s.toArray⟩:ByteArray)).map (·.data.toList)=l:=by
  rw [List.map_map]
  exact (List.map_congr_left fun _ _=>rfl).trans (List.map_id l)
 suffices h:Calls Tryz.prog 24 #[v,.string ⟨[44,32].toArray⟩] w fun e w'=>e=.returned (.string ⟨(commaJ l).toArray⟩)∧Below w.heap.size w w' from h.mono fun e w' ⟨he,hbl⟩=>by
  have hpt:=PT.ext' hw hbl
  exact ⟨_,S,he,hpt.wf,hpt.trans,.fz (.str _)⟩
 generalize hrows:l.map strJ=rows at f0
 cases f0 with
 |slNil=>
  obtain rfl:l = []:=by simpa using hrows
  exact (Tryz.strings_Join_none none 0 ⟨#[44,32]⟩ w).mono fun e w' ⟨he,hw'⟩=>⟨he,hw' ▸ Below.refl _ _⟩
 |slE A=>
  obtain rfl:l = []:=by simpa using hrows
  exact (Tryz.strings_Join_none (some A) 0 ⟨#[44,32]⟩ w).mono fun e w' ⟨he,hw'⟩=>⟨he,hw' ▸ Below.refl _ _⟩
 |@sl b o cap _ _ cv hc hm hrl hh ih=>
  subst hrows
  have hlen:(l.map strJ).length=(l.map fun s=>(⟨s.toArray⟩:ByteArray)).length:=by simp
  rw [hlen]
  by_cases h0:l = []
  ·subst h0
   exact (Tryz.strings_Join_none _ cap ⟨#[44,32]⟩ w).mono fun e w' ⟨he,hw'⟩=>⟨he,hw' ▸ Below.refl _ _⟩
  ·have hcell:∀ (j:Nat) (x:ByteArray),(l.map fun s=>(⟨s.toArray⟩:ByteArray))[j]?=some x→w.cell? ⟨b,o+j,none⟩=some (.string x):=fun j x hx=>by
    rw [List.getElem?_map] at hx
    cases hj:l[j]? with
    |none=>rw [hj] at hx;cases hx
    |some s=>
     rw [hj] at hx
     cases hx
     have hrow:(l.map strJ)[j]?=some [.str s]:=by rw [List.getElem?_map,hj];rfl
     obtain ⟨h1,_,_⟩:=hh j _ 0 _ hrow rfl
     have h2:=ih j _ 0 _ hrow rfl
     rw [Nat.mul_one,Nat.add_zero] at h1
     rw [h1]
     generalize cv j 0=y at h2
     cases h2
     rfl
   have hbk:b < w.heap.size:=by
    obtain ⟨s,hs⟩:∃ s,l[0]?=some s:=by cases l with|nil=>exact absurd rfl h0|cons s l=>exact ⟨s,rfl⟩
    exact cell_lt (hcell 0 _ (by rw [List.getElem?_map,hs];rfl))
   have:=Tryz.strings_Join b o cap (l.map fun s=>(⟨s.toArray⟩:ByteArray)) ⟨#[44,32]⟩ w hcell hbk (by simp;omega) (by rw [← hlen];exact hc) (by rw [hxs];exact hb)
   rw [hxs] at this
   exact this
def part (s:Str) (i j:Nat):Str:=(s.drop i).take (j - i)
structure Ate (s:Str) (i:Nat) (t:Str) (j:Nat):Prop where
 drop:s.drop i=t++s.drop j
 at_:j=i+t.length
theorem Ate.nil (s:Str) (i:Nat):Ate s i [] i:=⟨rfl,rfl⟩
theorem Ate.trans {s t u:Str} {i j k:Nat} (h:Ate s i t j) (g:Ate s j u k):Ate s i (t++u) k:=
 ⟨by rw [h.drop,g.drop,List.append_assoc],by rw [g.at_,h.at_,List.length_append];omega⟩
theorem Ate.of {s t r:Str} {i:Nat} (h:s.drop i=t++r):Ate s i t (i+t.length)∧s.drop (i+t.length)=r:=by
 have e:s.drop (i+t.length)=r:=by rw [← List.drop_drop,h,List.drop_left]
 exact ⟨⟨by rw [e,h],rfl⟩,e⟩
theorem commaJ_one (x:Str):commaJ [x]=x:=by
 unfold commaJ
 rw [Lib.join_cons]
 simp [Lib.joinTail]
theorem commaJ_cons (x:Str) (l:List Str) (h:l ≠ []):commaJ (x::l)=x++([44,32]++commaJ l):=by
 cases l with
 |nil=>exact absurd rfl h
 |cons y r=>
  unfold commaJ
  rw [Lib.join_cons,Lib.join_cons]
  simp [Lib.joinTail]
theorem text_mk (k:Int) (ks:List Cond) (p:Str) (vs:List Str) (lo hi:Int):(Cond.mk k ks p vs lo hi).text =
  (if k=1 then [97,108,108,40]++commaJ (ks.map Cond.text) ++ [41]
  else if k=2 then [97,110,121,40]++commaJ (ks.map Cond.text) ++ [41]
  else if k=3 then [110,111,116,40]++commaJ (ks.map Cond.text) ++ [41]
  else if k=4 then [116,104,101,114,101,32]++p
  else if k=6 then [99,111,117,110,116,32]++p++fromTo lo hi
  else if k=9 then p++fromTo lo hi
  else if k=7 then [101,97,99,104,32]++p ++ [32,40]++commaJ (ks.map Cond.text) ++ [41]
  else if k=8 then [115,111,109,101,32]++p ++ [32,40]++commaJ (ks.map Cond.text) ++ [41]
  else p ++ [32,105,110,32,40]++commaJ (vs.map quoteS) ++ [41]):=by
 rw [Cond.text,texts_map]
def Small13 (n:Int):Prop := -10000000000000 < n∧n < 10000000000000
theorem own_full {k:Int} {nk:Nat} {p:Str} {vs:List Str} {lo hi:Int} (h:ownErr k nk p vs lo hi=0):
  ((k=1∨k=2)∧0 < nk∧p = []∧vs = []∧lo=0∧hi=0)∨(k=3∧nk=1∧p = []∧vs = []∧lo=0∧hi=0)∨(k=4∧nk=0∧pathErr p=0∧vs = []∧lo=0∧hi=0)∨
  (k=5∧nk=0∧pathErr p=0∧valuesErr vs=0∧lo=0∧hi=0)∨((k=6∨k=9)∧nk=0∧pathErr p=0∧vs = []∧endsErr k lo hi=0)∨((k=7∨k=8)∧nk=1∧groupsErr p=0∧p ≠ []∧vs = []∧lo=0∧hi=0):=by
 unfold ownErr at h
 by_cases hr:k < 1∨9 < k
 ·rw [if_pos hr] at h;cases h
 ·rw [if_neg hr] at h
  by_cases hf:formB k nk p vs.length lo hi=true
  ·rw [if_pos hf] at h;cases h
  ·rw [if_neg hf] at h
   have hk:k=1∨k=2∨k=3∨k=4∨k=5∨k=6∨k=7∨k=8∨k=9:=by omega
   have hvs:vs.length=0↔vs = []:=List.length_eq_zero_iff
   rcases hk with rfl|rfl|rfl|rfl|rfl|rfl|rfl|rfl|rfl
   ·simp [formB,usesOfB,overB] at hf
    refine .inl ⟨.inl rfl,by omega,by simp_all,by simp_all,by simp_all,by simp_all⟩
   ·simp [formB,usesOfB,overB] at hf
    refine .inl ⟨.inr rfl,by omega,by simp_all,by simp_all,by simp_all,by simp_all⟩
   ·simp [formB,usesOfB,overB] at hf
    refine .inr (.inl ⟨rfl,by simp_all,by simp_all,by simp_all,by simp_all,by simp_all⟩)
   ·simp [formB,usesOfB,overB] at hf h
    refine .inr (.inr (.inl ⟨rfl,by simp_all,by simp_all,by simp_all,by simp_all,by simp_all⟩))
   ·simp [formB,usesOfB,overB] at hf h
    have h5:pathErr p=0:=by
     by_cases e:pathErr p=0
     ·exact e
     ·simp [e] at h
    simp [h5] at h
    refine .inr (.inr (.inr (.inl ⟨rfl,by simp_all,h5,h,by simp_all,by simp_all⟩)))
   ·simp [formB,usesOfB,overB] at hf h
    have h5:pathErr p=0:=by
     by_cases e:pathErr p=0
     ·exact e
     ·simp [e] at h
    simp [h5] at h
    refine .inr (.inr (.inr (.inr (.inl ⟨.inl rfl,by simp_all,h5,by simp_all,h⟩))))
   ·simp [formB,usesOfB,overB] at hf h
    have h5:groupsErr p=0:=by
     by_cases e:groupsErr p=0
     ·exact e
     ·simp [e] at h
    simp [h5] at h
    refine .inr (.inr (.inr (.inr (.inr ⟨.inl rfl,by simp_all,h5,h,by simp_all,by simp_all,by simp_all⟩))))
   ·simp [formB,usesOfB,overB] at hf h
    have h5:groupsErr p=0:=by
     by_cases e:groupsErr p=0
     ·exact e
     ·simp [e] at h
    simp [h5] at h
    refine .inr (.inr (.inr (.inr (.inr ⟨.inr rfl,by simp_all,h5,h,by simp_all,by simp_all,by simp_all⟩))))
   ·simp [formB,usesOfB,overB] at hf h
    have h5:pathErr p=0:=by
     by_cases e:pathErr p=0
     ·exact e
     ·simp [e] at h
    simp [h5] at h
    refine .inr (.inr (.inr (.inr (.inl ⟨.inr rfl,by simp_all,h5,by simp_all,h⟩))))
inductive Cond.Full:Cond→Prop where
 |mk {k:Int} {ks:List Cond} {p:Str} {vs:List Str} {lo hi:Int} (h:ownErr k ks.length p vs lo hi=0) (hf:ks.length≤200) (hk:∀ x ∈ ks,x.Full):(Cond.mk k ks p vs lo hi).Full
theorem chks_full {d:Int}:∀ (l:List Cond),(∀ c ∈ l,∀ n,0≤n→n≤200→(c.chk d n).2=0→c.Full∧(c.text.length:Int)+2≤100000 * ((c.chk d n).1 - n))→∀ n,0≤n→n≤200→(Cond.chks l d n).2=0→(∀ c ∈ l,c.Full)∧((commaJ (l.map Cond.text)).length:Int)≤100000 * ((Cond.chks l d n).1 - n)∧n+l.length≤(Cond.chks l d n).1∧(Cond.chks l d n).1≤200
 |[],_,n,_,h2,_=>by rw [chks_nil];exact ⟨by simp,by simp [commaJ,Lib.join],by simp,h2⟩
 |c::l,hc,n,hn0,hn1,h=>by
  have hat:=chks_at (l:=c::l) (i:=0) (c:=c) rfl d n
  rw [List.drop_zero] at hat
  rw [hat] at h ⊢
  by_cases he:(c.chk d n).2=0
  ·rw [if_neg (by simp [he])] at h ⊢
   obtain ⟨h1,h2⟩:=hc c (by simp) n hn0 hn1 he
   obtain ⟨g1,g2⟩:=chk_bd c d n hn1
   obtain ⟨h3,h4,g3,g4⟩:=chks_full l (fun y hy=>hc y (by simp [hy])) _ (by omega) (g2 he) h
   refine ⟨fun x hx => ?_,?_,by show n+((l.length+1:Nat):Int)≤(Cond.chks l d (c.chk d n).1).1;omega,g4⟩
   ·rcases List.mem_cons.1 hx with rfl|hx
    ·exact h1
    ·exact h3 x hx
   ·rw [List.map_cons]
    try simp only [List.drop_succ_cons,List.drop_zero] at h4
    try simp only [List.drop_succ_cons,List.drop_zero]
    by_cases h0:l = []
    ·subst h0
     rw [List.map_nil,commaJ_one]
     have h5:((commaJ (([]:List Cond).map Cond.text)).length:Int)=0:=rfl
     omega
    ·rw [commaJ_cons _ _ (by simpa using h0)]
     simp only [List.length_append,List.length_cons,List.length_nil]
     omega
  ·rw [if_pos he] at h
   exact absurd h he
theorem vals_len:∀ (prev:Option Str) (l:List Str),valsErr prev l=0→∀ v ∈ l,v.length≤1000
 |_,[],_=>by simp
 |prev,s::l,h=>by
  unfold valsErr at h
  split at h
  ·cases h
  ·rename_i h1
   split at h
   ·cases h
   ·intro v hv
    rcases List.mem_cons.1 hv with rfl|hv
    ·rw [not_or] at h1
     have:=h1.2
     unfold textB at this
     simp at this
     exact this.1
    ·exact vals_len _ l h v hv
theorem values_len {l:List Str} (h:valuesErr l=0):l ≠ []∧l.length≤20∧∀ v ∈ l,v.length≤1000:=by
 unfold valuesErr at h
 split at h
 ·cases h
 ·rename_i h0
  split at h
  ·cases h
  ·exact ⟨fun e=>h0 (by rw [e];rfl),by omega,vals_len none l h⟩
theorem path_len' {p:Str} (h:pathErr p=0):p.length≤200:=by
 unfold pathErr at h
 split at h
 ·cases h
 ·omega
theorem groups_len' {p:Str} (h:groupsErr p=0):p.length≤200:=by
 unfold groupsErr at h
 split at h
 ·cases h
 ·omega
theorem ends_bd' {k lo hi:Int} (h:endsErr k lo hi=0):Small13 lo∧Small13 hi:=by
 unfold endsErr at h
 unfold Small13
 repeat' split at h
 all_goals first|(cases h;done)|(constructor<;>omega)
theorem vtext_len (vs:List Str) (h1:vs.length≤20) (h2:∀ v ∈ vs,v.length≤1000):(commaJ (vs.map quoteS)).length≤41000:=by
 have key:∀ l:List Str,(∀ v ∈ l,v.length≤1000)→(commaJ (l.map quoteS)).length≤2004 * l.length:=by
  intro l
  induction l with
  |nil=>intro _;simp [commaJ,Lib.join]
  |cons v l ih=>
   intro h
   have hv:=h v (by simp)
   have hq:(quoteS v).length≤2002:=by
    have:=escS_len v
    simp [quoteS]
    omega
   have:=ih fun y hy=>h y (by simp [hy])
   rw [List.map_cons]
   by_cases h0:l = []
   ·subst h0
    rw [List.map_nil,commaJ_one]
    simp
    omega
   ·rw [commaJ_cons _ _ (by simpa using h0)]
    simp only [List.length_append,List.length_cons,List.length_nil]
    omega
 have:=key vs h2
 omega
theorem fromTo_len {lo hi:Int} (h1:Small13 lo) (h2:Small13 hi):(fromTo lo hi).length≤60:=by
 have b1:=Lib.itoa_length_le lo (by have:=h1.1;omega) (by have:=h1.2;omega)
 have b2:=Lib.itoa_length_le hi (by have:=h2.1;omega) (by have:=h2.2;omega)
 simp [fromTo]
 omega
theorem own_text {k:Int} {ks:List Cond} {p:Str} {vs:List Str} {lo hi:Int} (h:ownErr k ks.length p vs lo hi=0):(Cond.mk k ks p vs lo hi).text.length≤50000+(commaJ (ks.map Cond.text)).length:=by
 rw [text_mk]
 rcases own_full h with ⟨hk,_⟩|⟨hk,_⟩|⟨hk,_,hp,_⟩|⟨hk,_,hp,hv,_⟩|⟨hk,_,hp,_,he⟩|⟨hk,_,hg,_⟩
 ·rcases hk with rfl|rfl<;>simp<;>omega
 ·subst hk;simp;omega
 ·subst hk
  have:=path_len' hp
  simp
  omega
 ·subst hk
  have:=path_len' hp
  obtain ⟨_,h1,h2⟩:=values_len hv
  have:=vtext_len vs h1 h2
  simp
  omega
 ·have:=path_len' hp
  obtain ⟨h1,h2⟩:=ends_bd' he
  have:=fromTo_len h1 h2
  rcases hk with rfl|rfl<;>simp<;>omega
 ·have:=groups_len' hg
  rcases hk with rfl|rfl<;>simp<;>omega
theorem chk_full (c:Cond):∀ d n:Int,0≤n→n≤200→(c.chk d n).2=0→c.Full∧(c.text.length:Int)+2≤100000 * ((c.chk d n).1 - n):=by
 induction c using Cond.ind with
 |h k ks p vs lo hi ih=>
  intro d n hn0 hn1 h
  rw [chk_mk] at h ⊢
  split at h
  ·cases h
  ·rename_i h1
   rw [if_neg h1]
   split at h
   ·rename_i he
    exact absurd h he
   ·rename_i he
    rw [if_neg he]
    have he:ownErr k ks.length p vs lo hi=0:=by simpa using he
    obtain ⟨h2,h3,h5,h6⟩:=chks_full ks (fun c hc m h0 h1 hm=>ih c hc (d+1) m h0 h1 hm) (n+1) (by omega) (by omega) h
    have h4:=own_text he
    exact ⟨.mk he (by omega) h2,by omega⟩
theorem err_full {c:Cond} (h:c.err=0):c.Full∧c.text.length≤20000000:=by
 have h1:=chk_full c 0 0 (by omega) (by omega) h
 have h2:=(chk_bd c 0 0 (by omega)).2 h
 exact ⟨h1.1,by have:=h1.2;omega⟩
end Go.Proofs.YtindehjiaknokaaGreatDoor
