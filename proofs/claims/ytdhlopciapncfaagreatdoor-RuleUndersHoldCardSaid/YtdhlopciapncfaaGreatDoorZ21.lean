/- Paths: what the program says of one; numbers of the reference (walks). Conditions are right: the program's check (walks). -/
import Derived.Test.YtdhlopciapncfaaGreatDoorZ20
import Derived.Lib.LastIndexByte
import Derived.Test.YtdhlopciapncfaaGreatDoorZ17
namespace Go.Proofs.YtdhlopciapncfaaGreatDoor
set_option linter.unusedSimpArgs false
set_option linter.unusedVariables false
open Go.RowKit
set_option maxRecDepth 100000
set_option maxHeartbeats 1000000
theorem parts_snoc {c:UInt8}:∀ (a r:List UInt8),c ∉ r→partsAt c (a++c::r)=partsAt c a ++ [r]
 |[],r,h=>by rw [List.nil_append,show partsAt c (c::r) = []::partsAt c r by rw [partsAt,if_pos rfl],parts_none h];rfl
 |b::a,r,h=>by
  rw [List.cons_append,partsAt,partsAt,parts_snoc a r h]
  split
  ·rfl
  ·cases hw:partsAt c a with
   |nil=>exact absurd hw (parts_ne a)
   |cons x t=>rfl
theorem last_cases (p:Str):(Lib.lastIndexByte ⟨p.toArray⟩ 47 = -1∧partsAt 47 p = [p])∨
  ∃ i:Nat,Lib.lastIndexByte ⟨p.toArray⟩ 47=i∧i < p.length∧partsAt 47 p=partsAt 47 (p.take i) ++ [p.drop (i+1)]:=by
 have hsz:(⟨p.toArray⟩:ByteArray).size=p.length:=by show p.toArray.size=_;simp
 have hget:∀ j:Nat,j < p.length→∃ x,p[j]?=some x∧(⟨p.toArray⟩:ByteArray).data[j]! = x:=fun j hj=>by
  refine ⟨p[j],List.getElem?_eq_getElem hj,?_⟩
  show (p.toArray)[j]! = _
  rw [getElem!_pos p.toArray j (by simpa using hj)]
  simp
 rcases Lib.lastIndexByte_spec ⟨p.toArray⟩ 47 with ⟨h1,h2⟩|⟨i,h1,h2,h3,h4⟩
 ·refine .inl ⟨h1,parts_none fun hm => ?_⟩
  obtain ⟨j,hj⟩:=List.mem_iff_getElem?.1 hm
  have hjl:=(gLt hj)
  obtain ⟨x,hx,he⟩:=hget j hjl
  rw [hj] at hx
  cases hx
  exact h2 j (by rw [hsz];exact hjl) (by rw [he];rfl)
 ·rw [hsz] at h1
  refine .inr ⟨i,h2,h1,?_⟩
  obtain ⟨x,hx,he⟩:=hget i h1
  rw [he] at h3
  obtain rfl:x=47:=by
   apply UInt8.toNat_inj.1
   have:(47:UInt8).toNat=47:=rfl
   omega
  have hd:p=p.take i++47::p.drop (i+1):=by
   have:=List.drop_eq_getElem_cons h1
   rw [(List.getElem?_eq_some_iff.1 hx).2] at this
   rw [← this,List.take_append_drop]
  have hn:(47:UInt8) ∉ p.drop (i+1):=fun hm=>by
   obtain ⟨j,hj⟩:=List.mem_iff_getElem?.1 hm
   rw [List.getElem?_drop] at hj
   have hjl:=(gLt hj)
   obtain ⟨y,hy,he⟩:=hget (i+1+j) hjl
   rw [hj] at hy
   cases hy
   exact h4 (i+1+j) (by omega) (by rw [hsz];exact hjl) (by rw [he];rfl)
  conv=>lhs;rw [hd]
  exact parts_snoc _ _ hn
def zW:Wy:=([],[],0,0)
def wayN (p:Str):Wy × Bool:=
 if (partsAt 47 p).dropLast.all isNameB=true then tailN (partsAt 47 p).dropLast (partsAt 46 ((partsAt 47 p).getLast?.getD [])) else (zW,false)
theorem way_sem (p:Str) (hp:p.length≤1000):Sem Tryz.prog 28 [.str p] (.tup [.agg (wayN p).1.row,.bool (wayN p).2]):=by
 rcases last_cases p with ⟨h1,h2⟩|⟨i,h1,h2,h3⟩
 ·unfold wayN
  rw [h2]
  exact way_none p hp h1
 ·unfold wayN
  rw [h3,List.dropLast_concat,List.getLast?_concat]
  by_cases hn:(partsAt 47 (p.take i)).all isNameB=true
  ·rw [if_pos hn]
   exact way_some p i hp h1 h2 hn
  ·rw [if_neg hn]
   exact way_bad p i hp h1 h2 (by simpa [namesB] using hn)
def pathErr (p:Str):Int:=if 200 < p.length then 2 else if (wayN p).2=true then 0 else 10
theorem checkPath_sem (p:Str):Sem Tryz.prog 67 [.str p] (.int .i64 (pathErr p)):=by
 have h:=fun h:p.length≤1000=>way_sem p h
 unfold pathErr
 generalize wayN p=r at h ⊢
 obtain ⟨w,b⟩:=r
 dsimp only at h ⊢
 unfold Wy.row at h
 refine si [] Tryz.func67 ?_
 repeat'((conv=>whnf);first|(try(first|apply eN|apply eI|apply eC);conv=>whnf);apply sD;(focus first|(refine gx (h (by omega))<;>exact pre)|(refine gx (way_sem ?_ ?_)<;>exact pre)|(refine gx (way_none ?_ ?_ ?_)<;>exact pre)|(refine gx (way_some ?_ ?_ ?_ ?_ ?_ ?_)<;>exact pre)|(refine gx (way_bad ?_ ?_ ?_ ?_ ?_ ?_)<;>exact pre)|exact side)|apply rR|apply rE|apply rH| (apply cD<;>intro hb<;>(try simp only[SPLT]at hb)<;>try exact noB))
 all_goals try exact false
 all_goals (
  repeat' ((conv=>whnf);first|exact endR|with_reducible first|apply And.intro|apply oR|apply oN|apply dC)
  all_goals (conv=>whnf)
  refine rle_int ?_
  clear h
  cases b<;>simp at hb ⊢<;>omega)
set_option maxHeartbeats 4000000
def ownErr (k:Int) (nk:Nat) (p:Str) (vs:List Str) (lo hi:Int):Int:=
 if k < 1∨9 < k then 4 else if formB k nk p vs.length lo hi=true then 3
 else if overB k=true then (if groupsErr p ≠ 0 then groupsErr p else if p = [] then 9 else 0)
 else if 4≤k∧pathErr p ≠ 0 then pathErr p
 else if k=5 then valuesErr vs else if k=6∨k=9 then endsErr k lo hi else 0
theorem ownFault_sem (k:Int) (rows:List (List D)) (p:Str) (vs:List Str) (lo hi:Int):Sem Tryz.prog 39 [.agg [.int .i64 k,.sl 0 6 rows,.str p,.sl 0 1 (vs.map fun s => [.str s]),.int .i64 lo,.int .i64 hi]] (.int .i64 (ownErr k rows.length p vs lo hi)):=by
 have h1:=checkPath_sem p
 have h2:=formFault_sem k rows p (vs.map fun s => [.str s]) lo hi
 rw [List.length_map] at h2
 have h3:=usesOf_sem k
 have h4:=isOver_sem k
 have h5:=outsideK_sem k 1 9
 have h6:=checkGroups_sem p
 have h7:=valuesFault_sem vs
 have h8:=endsFault_sem k rows p (vs.map fun s => [.str s]) lo hi
 have hr:ownErr k rows.length p vs lo hi=if k < 1∨9 < k then 4 else if formB k rows.length p vs.length lo hi=true then 3
  else if overB k=true then (if groupsErr p ≠ 0 then groupsErr p else if p = [] then 9 else 0)
  else if 4≤k∧pathErr p ≠ 0 then pathErr p
  else if k=5 then valuesErr vs else if k=6∨k=9 then endsErr k lo hi else 0:=rfl
 generalize ownErr k rows.length p vs lo hi=r at hr ⊢
 generalize pathErr p=pe at h1 hr
 generalize groupsErr p=ge at h6 hr
 generalize valuesErr vs=ve at h7 hr
 generalize endsErr k lo hi=ee at h8 hr
 generalize formB k rows.length p vs.length lo hi=fb at h2 hr
 generalize usesOfB k=ub at h3
 generalize overB k=ob at h4 hr
 refine si [3,2000003,1000016] Tryz.func39 ?_
 repeat'((conv=>whnf);first|(try(first|apply eN|apply eI|apply eC);conv=>whnf);apply sD;(focus first|exact gx h1|exact gx h2|exact gx h3|exact gx h4|exact gx h5|exact gx h6|exact gx h7|exact gx h8|(refine gx (outR_sem ?_ ?_)<;>exact pre)|(refine gx (outsideK_sem ?_ ?_ ?_)<;>exact pre)|(refine gx (formFault_sem ?_ ?_ ?_ ?_ ?_ ?_)<;>exact pre)|(refine gx (usesOf_sem ?_)<;>exact pre)|(refine gx (isOver_sem ?_)<;>exact pre)|(refine gx (checkGroups_sem ?_)<;>exact pre)|(refine gx (checkPath_sem ?_)<;>exact pre)|(refine gx (valuesFault_sem ?_)<;>exact pre)|(refine gx (endsFault_sem ?_ ?_ ?_ ?_ ?_ ?_)<;>exact pre)|exact side)|apply rR|apply rE|apply rH| (apply cD<;>intro hb<;>(try simp only[SPLT]at hb)<;>try exact noB))
 all_goals try exact false
 all_goals (
  repeat' ((conv=>whnf);first|exact endR|with_reducible first|apply And.intro|apply oR|apply oN|apply dC)
  all_goals (conv=>whnf)
  refine rle_int ?_
  rw [hr]
  clear h1 h2 h3 h4 h5 h6 h7 h8 hr
  repeat' split
  all_goals first|omega|rfl|(simp_all;done)|(simp_all;omega))
mutual
def Cond.chk:Cond→Int→Int→Int × Int
 |.mk k ks p vs lo hi,d,n=>if 200 < n+1∨6 < d then (n+1,2) else if ownErr k ks.length p vs lo hi ≠ 0 then (n+1,ownErr k ks.length p vs lo hi) else Cond.chks ks (d+1) (n+1)
def Cond.chks:List Cond→Int→Int→Int × Int
 |[],_,n=>(n,0)
 |c::l,d,n=>if (c.chk d n).2 ≠ 0 then c.chk d n else Cond.chks l d (c.chk d n).1
end
theorem chk_mk (k:Int) (ks:List Cond) (p:Str) (vs:List Str) (lo hi:Int) (d n:Int):(Cond.mk k ks p vs lo hi).chk d n=if 200 < n+1∨6 < d then (n+1,2) else if ownErr k ks.length p vs lo hi ≠ 0 then (n+1,ownErr k ks.length p vs lo hi) else Cond.chks ks (d+1) (n+1):=by
 rw [Cond.chk]
theorem chks_at {l:List Cond} {i:Nat} {c:Cond} (h:l[i]?=some c) (d n:Int):Cond.chks (l.drop i) d n=if (c.chk d n).2 ≠ 0 then c.chk d n else Cond.chks (l.drop (i+1)) d (c.chk d n).1:=by
 rw [List.drop_eq_getElem_cons (gLt h),(List.getElem?_eq_some_iff.1 h).2,Cond.chks]
attribute [irreducible] Cond.chk Cond.chks
theorem chks_nil (d n:Int):Cond.chks [] d n=(n,0):=by rw [Cond.chks]
theorem chks_bd {d:Int}:∀ (l:List Cond),(∀ c ∈ l,∀ n,n≤200→n < (c.chk d n).1∧((c.chk d n).2=0→(c.chk d n).1≤200))→∀ n,n≤200→n≤(Cond.chks l d n).1∧((Cond.chks l d n).2=0→(Cond.chks l d n).1≤200)
 |[],_,n,h=>by rw [chks_nil];exact ⟨Int.le_refl _,fun _=>h⟩
 |c::l,hc,n,h=>by
  obtain ⟨h1,h2⟩:=hc c (by simp) n h
  rw [Cond.chks]
  by_cases he:(c.chk d n).2=0
  ·rw [if_neg (by simp [he])]
   obtain ⟨h3,h4⟩:=chks_bd l (fun x hx=>hc x (by simp [hx])) _ (h2 he)
   exact ⟨by omega,h4⟩
  ·rw [if_pos he]
   exact ⟨by omega,fun e=>absurd e he⟩
theorem chk_bd (c:Cond):∀ d n:Int,n≤200→n < (c.chk d n).1∧((c.chk d n).2=0→(c.chk d n).1≤200):=by
 induction c using Cond.ind with
 |h k ks p vs lo hi ih=>
  intro d n hn
  rw [chk_mk]
  split
  ·exact ⟨by dsimp only;omega,fun e=>by cases e⟩
  ·split
   ·rename_i he
    exact ⟨by dsimp only;omega,fun e=>absurd e he⟩
   ·obtain ⟨h1,h2⟩:=chks_bd (d:=d+1) ks (fun c hc n hn=>ih c hc (d+1) n hn) (n+1) (by omega)
    exact ⟨by omega,h2⟩
theorem cond_sem (c:Cond):∀ d n:Int,0≤n→n≤200→0≤d→d≤1000→SemO Tryz.prog 16 (.obj [.int .i64 n]) [.agg c.row,.int .i64 d] (.int .i64 (c.chk d n).2) (some (.obj [.int .i64 (c.chk d n).1])):=by
 induction c using Cond.ind with
 |h k ks p vs lo hi ih=>
  intro d n hn0 hn hd0 hd
  have h1:=ownFault_sem k (ks.map Cond.row) p vs lo hi
  rw [List.length_map] at h1
  rw [chk_mk,Cond.row_mk]
  generalize ownErr k ks.length p vs lo hi=e at h1 ⊢
  generalize hr:(if 200 < n+1∨6 < d then (n+1,(2:Int)) else if e ≠ 0 then (n+1,e) else Cond.chks ks (d+1) (n+1))=r
  refine semO_intro (M:=fun t=>mem t [0,9,1000016]) hT hM Tryz.func16 inferInstance rfl rfl rfl rfl rfl rfl rfl rfl rfl ?_
  repeat'((conv=>whnf);first|(try(first|apply eN|apply eI|apply eC);conv=>whnf);apply sD;(focus(try intro hc;have hc0:=hc;(try simp only[SPLT]at hc);try refine and0 ?_);first|exact gx h1|(refine gx (ownFault_sem ?_ ?_ ?_ ?_ ?_ ?_)<;>exact pre)|exact sideG)|((with_reducible apply CallO.go);(conv=>whnf);(with_reducible apply sD);(focus (first|((apply giveso_go (condO_sem _ _ _ _ _ _ _));(focus (first|exact rfl|(simp;done)));(focus (exact DLes.au));exact rfl;(all_goals (exact pre))))))|apply rR|apply rE|apply rH| (apply cD<;>intro hb<;>(try simp only[SPLT]at hb)<;>try exact noB))
  all_goals try exact false
  ·rw [if_pos (by omega)] at hr
   subst hr
   exact finR
  ·rw [if_neg (by omega),if_pos (by omega)] at hr
   subst hr
   exact finR
  ·have hll:(ks.map Cond.row).length=ks.length:=List.length_map _
   rw [if_neg (by omega),if_neg (by omega)] at hr
   refine loop_go (M:=fun t=>mem t [0,9,1000016]) hT hM (fun x:Nat × Int => [(35,.int .i64 x.1),(0,.obj [.int .i64 x.2])]) (fun x=>x.1≤ks.length∧n+1+x.1≤x.2∧x.2≤200∧Cond.chks (ks.drop x.1) (d+1) x.2=r) (fun x=>ks.length - x.1) ((0,n+1)) ?_ ?_ ?_
   ·exact finF
   ·exact ⟨Nat.zero_le _,by dsimp only;omega,by dsimp only;omega,hr⟩
   ·rintro ⟨i,m⟩ ⟨hi,hm1,hm2,hv⟩
    dsimp only at hi hm1 hm2 hv ⊢
    cases hx:ks[i]? with
    |none=>
     have hm:=List.getElem?_eq_none_iff.1 hx
     rw [List.drop_of_length_le hm,chks_nil] at hv
     subst hv
     repeat'((conv=>whnf);first|(try(first|apply eN|apply eI|apply eC);conv=>whnf);apply sD;(focus(try intro hc;have hc0:=hc;(try simp only[SPLT]at hc);try refine and0 ?_);first|(refine gx (ownFault_sem ?_ ?_ ?_ ?_ ?_ ?_)<;>exact pre)|exact sideG)|((with_reducible apply CallO.go);(conv=>whnf);(with_reducible apply sD);(focus (first|((apply giveso_go (condO_sem _ _ _ _ _ _ _));(focus (first|exact rfl|(simp;done)));(focus (exact DLes.au));exact rfl;(all_goals (exact pre))))))|apply rR|apply rE|apply rH| (apply cD<;>intro hb<;>(try simp only[SPLT]at hb)<;>try exact noB))
     all_goals try exact false
     exact finR
    |some x=>
     have hlt:=(gLt hx)
     obtain ⟨hb1,hb2⟩:=chk_bd x (d+1) m hm2
     have ih':=ih x (gMem hx) (d+1) m (by omega) hm2 (by omega) (by omega)
     rw [chks_at hx] at hv
     generalize x.chk (d+1) m=y at hv ih' hb1 hb2
     obtain ⟨m2,e2⟩:=y
     obtain ⟨k1,ks1,p1,vs1,lo1,hi1⟩:=x
     rw [Cond.row_mk] at ih'
     dsimp only at hv ih' hb1 hb2
     repeat'((conv=>whnf);first|(try(first|apply eN|apply eI|apply eC);conv=>whnf);apply sD;(focus(try intro hc;have hc0:=hc;(try simp only[SPLT]at hc);try refine and0 ?_);first|(exact idx_row hx rfl)|(refine gx (ownFault_sem ?_ ?_ ?_ ?_ ?_ ?_)<;>exact pre)|exact sideG)|((with_reducible apply CallO.go);(conv=>whnf);(with_reducible apply sD);(focus (first|((apply giveso_go (ih'));(focus (first|exact rfl|(simp;done)));(focus (exact DLes.au));exact rfl;(all_goals (exact pre))))))|apply rR|apply rE|apply rH| (apply cD<;>intro hb<;>(try simp only[SPLT]at hb)<;>try exact noB))
     all_goals try exact false
     ·rw [if_pos (by omega)] at hv
      subst hv
      exact finR
     ·rw [if_neg (by omega)] at hv
      refine ⟨(i+1,m2),⟨by dsimp only;omega,by dsimp only;omega,by dsimp only;omega,hv⟩,by dsimp only;omega,?_⟩
      exact finF
theorem condO_sem (c:Cond) (d n:Int) (h0:0≤n) (h1:n≤200) (h2:0≤d) (h3:d≤1000):SemO Tryz.prog 16 (.obj [.int .i64 n]) [.agg c.row,.int .i64 d] (.int .i64 (c.chk d n).2) (some (.obj [.int .i64 (c.chk d n).1])):=cond_sem c d n h0 h1 h2 h3
def Cond.err (c:Cond):Int:=(c.chk 0 0).2
theorem checkCond_sem (c:Cond):Sem Tryz.prog 8 [.agg c.row] (.int .i64 c.err):=by
 have h:=cond_sem c 0 0 (by omega) (by omega) (by omega) (by omega)
 unfold Cond.err
 generalize c.chk 0 0=y at h ⊢
 obtain ⟨m,e⟩:=y
 obtain ⟨k,ks,p,vs,lo,hi⟩:=c
 rw [Cond.row_mk] at h ⊢
 dsimp only at h ⊢
 refine si [4,1000016] Tryz.func8 ?_
 repeat'((conv=>whnf);first|(try(first|apply eN|apply eI|apply eC);conv=>whnf);apply sD;(focus first|exact side)|((with_reducible apply CallO.go);(conv=>whnf);(with_reducible apply sD);(focus (first|((apply giveso_go (h));(focus (first|exact rfl|(simp;done)));(focus (exact DLes.au));exact rfl;(all_goals (exact pre))))))|apply rR|apply rE|apply rH| (apply cD<;>intro hb<;>(try simp only[SPLT]at hb)<;>try exact noB))
 all_goals try exact false
 exact finR
inductive Cond.Txt:Cond→Prop where
 |mk {k:Int} {ks:List Cond} {p:Str} {vs:List Str} {lo hi:Int} (hp:p.length≤9223372036854775807) (hv:∀ v ∈ vs,v.length≤9223372036854775807) (hk:∀ x ∈ ks,x.Txt):(Cond.mk k ks p vs lo hi).Txt
end Go.Proofs.YtdhlopciapncfaaGreatDoor
