/- Paths: what the program says of one; numbers of the reference (walks). What the shelf says of strings.Join and strconv.Itoa, as contracts on data. -/
import Derived.Test.YtindehjiaknokaaGreatDoorY17
import Derived.Lib.LastIndexByte
import Derived.Lib.ItoaLen
import Derived.Lib.Join
import Derived.Laws.Runes
namespace Go.Proofs.YtindehjiaknokaaGreatDoor
set_option linter.unusedSimpArgs false
set_option linter.unusedVariables false
open Go.RowKit
set_option maxRecDepth 100000
set_option maxHeartbeats 1000000
theorem parts_snoc {c:UInt8}:∀ (a r:List UInt8),c ∉ r→partsAt c (a++c::r)=partsAt c a ++ [r]
 |[],r,h=>by rw [List.nil_append,show partsAt c (c::r) = []::partsAt c r by rw [partsAt,if_pos rfl],parts_none h];rfl
 |b::a,r,h=>by
  rw [List.cons_append,partsAt,partsAt,parts_snoc a r h]
  split
  ·rfl
  ·cases hw:partsAt c a with
   |nil=>exact absurd hw (parts_ne a)
   |cons x t=>rfl
theorem last_cases (p:Str):(Lib.lastIndexByte ⟨p.toArray⟩ 47 = -1∧partsAt 47 p = [p])∨
  ∃ i:Nat,Lib.lastIndexByte ⟨p.toArray⟩ 47=i∧i < p.length∧partsAt 47 p=partsAt 47 (p.take i) ++ [p.drop (i+1)]:=by
 have hsz:(⟨p.toArray⟩:ByteArray).size=p.length:=by show p.toArray.size=_;simp
 have hget:∀ j:Nat,j < p.length→∃ x,p[j]?=some x∧(⟨p.toArray⟩:ByteArray).data[j]! = x:=fun j hj=>by
  refine ⟨p[j],List.getElem?_eq_getElem hj,?_⟩
  show (p.toArray)[j]! = _
  rw [getElem!_pos p.toArray j (by simpa using hj)]
  simp
 rcases Lib.lastIndexByte_spec ⟨p.toArray⟩ 47 with ⟨h1,h2⟩|⟨i,h1,h2,h3,h4⟩
 ·refine .inl ⟨h1,parts_none fun hm => ?_⟩
  obtain ⟨j,hj⟩:=List.mem_iff_getElem?.1 hm
  have hjl:=(gLt hj)
  obtain ⟨x,hx,he⟩:=hget j hjl
  rw [hj] at hx
  cases hx
  exact h2 j (by rw [hsz];exact hjl) (by rw [he];rfl)
 ·rw [hsz] at h1
  refine .inr ⟨i,h2,h1,?_⟩
  obtain ⟨x,hx,he⟩:=hget i h1
  rw [he] at h3
  obtain rfl:x=47:=by
   apply UInt8.toNat_inj.1
   have:(47:UInt8).toNat=47:=rfl
   omega
  have hd:p=p.take i++47::p.drop (i+1):=by
   have:=List.drop_eq_getElem_cons h1
   rw [(List.getElem?_eq_some_iff.1 hx).2] at this
   rw [← this,List.take_append_drop]
  have hn:(47:UInt8) ∉ p.drop (i+1):=fun hm=>by
   obtain ⟨j,hj⟩:=List.mem_iff_getElem?.1 hm
   rw [List.getElem?_drop] at hj
   have hjl:=(gLt hj)
   obtain ⟨y,hy,he⟩:=hget (i+1+j) hjl
   rw [hj] at hy
   cases hy
   exact h4 (i+1+j) (by omega) (by rw [hsz];exact hjl) (by rw [he];rfl)
  conv=>lhs;rw [hd]
  exact parts_snoc _ _ hn
def zW:Wy:=([],[],0,0)
def wayN (p:Str):Wy × Bool:=
 if (partsAt 47 p).dropLast.all isNameB=true then tailN (partsAt 47 p).dropLast (partsAt 46 ((partsAt 47 p).getLast?.getD [])) else (zW,false)
theorem way_sem (p:Str) (hp:p.length≤1000):Sem Tryz.prog 80 [.str p] (.tup [.agg (wayN p).1.row,.bool (wayN p).2]):=by
 rcases last_cases p with ⟨h1,h2⟩|⟨i,h1,h2,h3⟩
 ·unfold wayN
  rw [h2]
  exact way_none p hp h1
 ·unfold wayN
  rw [h3,List.dropLast_concat,List.getLast?_concat]
  by_cases hn:(partsAt 47 (p.take i)).all isNameB=true
  ·rw [if_pos hn]
   exact way_some p i hp h1 h2 hn
  ·rw [if_neg hn]
   exact way_bad p i hp h1 h2 (by simpa [namesB] using hn)
def pathErr (p:Str):Int:=if 200 < p.length then 2 else if (wayN p).2=true then 0 else 10
theorem checkPath_sem (p:Str):Sem Tryz.prog 56 [.str p] (.int .i64 (pathErr p)):=by
 have h:=fun h:p.length≤1000=>way_sem p h
 unfold pathErr
 generalize wayN p=r at h ⊢
 obtain ⟨w,b⟩:=r
 dsimp only at h ⊢
 unfold Wy.row at h
 refine si [] Tryz.func56 ?_
 repeat'((conv=>whnf);first|(try(first|apply eN|apply eI|apply eC);conv=>whnf);apply sD;(focus first|(refine gx (h (by omega))<;>exact pre)|(refine gx (way_sem ?_ ?_)<;>exact pre)|(refine gx (way_none ?_ ?_ ?_)<;>exact pre)|(refine gx (way_some ?_ ?_ ?_ ?_ ?_ ?_)<;>exact pre)|(refine gx (way_bad ?_ ?_ ?_ ?_ ?_ ?_)<;>exact pre)|exact side)|apply rR|apply rE|apply rH| (apply cD<;>intro hb<;>(try simp only[SPLT]at hb)<;>try exact noB))
 all_goals try exact false
 all_goals (
  repeat' ((conv=>whnf);first|exact endR|with_reducible first|apply And.intro|apply oR|apply oN|apply dC)
  all_goals (conv=>whnf)
  refine rle_int ?_
  clear h
  cases b<;>simp at hb ⊢<;>omega)
set_option maxHeartbeats 4000000
def ownErr (k:Int) (nk:Nat) (p:Str) (vs:List Str) (lo hi:Int):Int:=
 if k < 1∨9 < k then 4 else if formB k nk p vs.length lo hi=true then 3
 else if overB k=true then (if groupsErr p ≠ 0 then groupsErr p else if p = [] then 9 else 0)
 else if 4≤k∧pathErr p ≠ 0 then pathErr p
 else if k=5 then valuesErr vs else if k=6∨k=9 then endsErr k lo hi else 0
theorem ownFault_sem (k:Int) (rows:List (List D)) (p:Str) (vs:List Str) (lo hi:Int):Sem Tryz.prog 28 [.agg [.int .i64 k,.sl 0 6 rows,.str p,.sl 0 1 (vs.map fun s => [.str s]),.int .i64 lo,.int .i64 hi]] (.int .i64 (ownErr k rows.length p vs lo hi)):=by
 have h1:=checkPath_sem p
 have h2:=formFault_sem k rows p (vs.map fun s => [.str s]) lo hi
 rw [List.length_map] at h2
 have h3:=usesOf_sem k
 have h4:=isOver_sem k
 have h5:=outsideK_sem k 1 9
 have h6:=checkGroups_sem p
 have h7:=valuesFault_sem vs
 have h8:=endsFault_sem k rows p (vs.map fun s => [.str s]) lo hi
 have hr:ownErr k rows.length p vs lo hi=if k < 1∨9 < k then 4 else if formB k rows.length p vs.length lo hi=true then 3
  else if overB k=true then (if groupsErr p ≠ 0 then groupsErr p else if p = [] then 9 else 0)
  else if 4≤k∧pathErr p ≠ 0 then pathErr p
  else if k=5 then valuesErr vs else if k=6∨k=9 then endsErr k lo hi else 0:=rfl
 generalize ownErr k rows.length p vs lo hi=r at hr ⊢
 generalize pathErr p=pe at h1 hr
 generalize groupsErr p=ge at h6 hr
 generalize valuesErr vs=ve at h7 hr
 generalize endsErr k lo hi=ee at h8 hr
 generalize formB k rows.length p vs.length lo hi=fb at h2 hr
 generalize usesOfB k=ub at h3
 generalize overB k=ob at h4 hr
 refine si [3,2000003,1000016] Tryz.func28 ?_
 repeat'((conv=>whnf);first|(try(first|apply eN|apply eI|apply eC);conv=>whnf);apply sD;(focus first|exact gx h1|exact gx h2|exact gx h3|exact gx h4|exact gx h5|exact gx h6|exact gx h7|exact gx h8|(refine gx (outR_sem ?_ ?_)<;>exact pre)|(refine gx (outsideK_sem ?_ ?_ ?_)<;>exact pre)|(refine gx (formFault_sem ?_ ?_ ?_ ?_ ?_ ?_)<;>exact pre)|(refine gx (usesOf_sem ?_)<;>exact pre)|(refine gx (isOver_sem ?_)<;>exact pre)|(refine gx (checkGroups_sem ?_)<;>exact pre)|(refine gx (checkPath_sem ?_)<;>exact pre)|(refine gx (valuesFault_sem ?_)<;>exact pre)|(refine gx (endsFault_sem ?_ ?_ ?_ ?_ ?_ ?_)<;>exact pre)|exact side)|apply rR|apply rE|apply rH| (apply cD<;>intro hb<;>(try simp only[SPLT]at hb)<;>try exact noB))
 all_goals try exact false
 all_goals (
  repeat' ((conv=>whnf);first|exact endR|with_reducible first|apply And.intro|apply oR|apply oN|apply dC)
  all_goals (conv=>whnf)
  refine rle_int ?_
  rw [hr]
  clear h1 h2 h3 h4 h5 h6 h7 h8 hr
  repeat' split
  all_goals first|omega|rfl|(simp_all;done)|(simp_all;omega))
mutual
def Cond.chk:Cond→Int→Int→Int × Int
 |.mk k ks p vs lo hi,d,n=>if 200 < n+1∨6 < d then (n+1,2) else if ownErr k ks.length p vs lo hi ≠ 0 then (n+1,ownErr k ks.length p vs lo hi) else Cond.chks ks (d+1) (n+1)
def Cond.chks:List Cond→Int→Int→Int × Int
 |[],_,n=>(n,0)
 |c::l,d,n=>if (c.chk d n).2 ≠ 0 then c.chk d n else Cond.chks l d (c.chk d n).1
end
theorem chk_mk (k:Int) (ks:List Cond) (p:Str) (vs:List Str) (lo hi:Int) (d n:Int):(Cond.mk k ks p vs lo hi).chk d n=if 200 < n+1∨6 < d then (n+1,2) else if ownErr k ks.length p vs lo hi ≠ 0 then (n+1,ownErr k ks.length p vs lo hi) else Cond.chks ks (d+1) (n+1):=by
 rw [Cond.chk]
theorem chks_at {l:List Cond} {i:Nat} {c:Cond} (h:l[i]?=some c) (d n:Int):Cond.chks (l.drop i) d n=if (c.chk d n).2 ≠ 0 then c.chk d n else Cond.chks (l.drop (i+1)) d (c.chk d n).1:=by
 rw [List.drop_eq_getElem_cons (gLt h),(List.getElem?_eq_some_iff.1 h).2,Cond.chks]
attribute [irreducible] Cond.chk Cond.chks
theorem chks_nil (d n:Int):Cond.chks [] d n=(n,0):=by rw [Cond.chks]
theorem chks_bd {d:Int}:∀ (l:List Cond),(∀ c ∈ l,∀ n,n≤200→n < (c.chk d n).1∧((c.chk d n).2=0→(c.chk d n).1≤200))→∀ n,n≤200→n≤(Cond.chks l d n).1∧((Cond.chks l d n).2=0→(Cond.chks l d n).1≤200)
 |[],_,n,h=>by rw [chks_nil];exact ⟨Int.le_refl _,fun _=>h⟩
 |c::l,hc,n,h=>by
  obtain ⟨h1,h2⟩:=hc c (by simp) n h
  rw [Cond.chks]
  by_cases he:(c.chk d n).2=0
  ·rw [if_neg (by simp [he])]
   obtain ⟨h3,h4⟩:=chks_bd l (fun x hx=>hc x (by simp [hx])) _ (h2 he)
   exact ⟨by omega,h4⟩
  ·rw [if_pos he]
   exact ⟨by omega,fun e=>absurd e he⟩
theorem chk_bd (c:Cond):∀ d n:Int,n≤200→n < (c.chk d n).1∧((c.chk d n).2=0→(c.chk d n).1≤200):=by
 induction c using Cond.ind with
 |h k ks p vs lo hi ih=>
  intro d n hn
  rw [chk_mk]
  split
  ·exact ⟨by dsimp only;omega,fun e=>by cases e⟩
  ·split
   ·rename_i he
    exact ⟨by dsimp only;omega,fun e=>absurd e he⟩
   ·obtain ⟨h1,h2⟩:=chks_bd (d:=d+1) ks (fun c hc n hn=>ih c hc (d+1) n hn) (n+1) (by omega)
    exact ⟨by omega,h2⟩
theorem cond_sem (c:Cond):∀ d n:Int,0≤n→n≤200→0≤d→d≤1000→SemO Tryz.prog 16 (.obj [.int .i64 n]) [.agg c.row,.int .i64 d] (.int .i64 (c.chk d n).2) (some (.obj [.int .i64 (c.chk d n).1])):=by
 induction c using Cond.ind with
 |h k ks p vs lo hi ih=>
  intro d n hn0 hn hd0 hd
  have h1:=ownFault_sem k (ks.map Cond.row) p vs lo hi
  rw [List.length_map] at h1
  rw [chk_mk,Cond.row_mk]
  generalize ownErr k ks.length p vs lo hi=e at h1 ⊢
  generalize hr:(if 200 < n+1∨6 < d then (n+1,(2:Int)) else if e ≠ 0 then (n+1,e) else Cond.chks ks (d+1) (n+1))=r
  refine sO [0,9,1000016] Tryz.func16 ?_
  repeat'((conv=>whnf);first|(try(first|apply eN|apply eI|apply eC);conv=>whnf);apply sD;(focus(try intro hc;have hc0:=hc;(try simp only[SPLT]at hc);try refine and0 ?_);first|exact gx h1|(refine gx (ownFault_sem ?_ ?_ ?_ ?_ ?_ ?_)<;>exact pre)|exact sideG)|((with_reducible apply CallO.go);(conv=>whnf);apply sD;(focus first|(apply giveso_g (condO_sem _ _ _ _ _ _ _);all_goals exact preO)))|apply rR|apply rE|apply rH| (apply cD<;>intro hb<;>(try simp only[SPLT]at hb)<;>try exact noB))
  all_goals try exact false
  ·rw [if_pos (by omega)] at hr
   subst hr
   exact finR
  ·rw [if_neg (by omega),if_pos (by omega)] at hr
   subst hr
   exact finR
  ·have hll:(ks.map Cond.row).length=ks.length:=List.length_map _
   rw [if_neg (by omega),if_neg (by omega)] at hr
   refine loop_go (M:=fun t=>mem t [0,9,1000016]) hT hM (fun x:Nat × Int => [(35,.int .i64 x.1),(0,.obj [.int .i64 x.2])]) (fun x=>x.1≤ks.length∧n+1+x.1≤x.2∧x.2≤200∧Cond.chks (ks.drop x.1) (d+1) x.2=r) (fun x=>ks.length - x.1) ((0,n+1)) ?_ ?_ ?_
   ·exact finF
   ·exact ⟨Nat.zero_le _,by dsimp only;omega,by dsimp only;omega,hr⟩
   ·rintro ⟨i,m⟩ ⟨hi,hm1,hm2,hv⟩
    dsimp only at hi hm1 hm2 hv ⊢
    cases hx:ks[i]? with
    |none=>
     have hm:=List.getElem?_eq_none_iff.1 hx
     rw [List.drop_of_length_le hm,chks_nil] at hv
     subst hv
     repeat'((conv=>whnf);first|(try(first|apply eN|apply eI|apply eC);conv=>whnf);apply sD;(focus(try intro hc;have hc0:=hc;(try simp only[SPLT]at hc);try refine and0 ?_);first|(refine gx (ownFault_sem ?_ ?_ ?_ ?_ ?_ ?_)<;>exact pre)|exact sideG)|((with_reducible apply CallO.go);(conv=>whnf);apply sD;(focus first|(apply giveso_g (condO_sem _ _ _ _ _ _ _);all_goals exact preO)))|apply rR|apply rE|apply rH| (apply cD<;>intro hb<;>(try simp only[SPLT]at hb)<;>try exact noB))
     all_goals try exact false
     exact finR
    |some x=>
     have hlt:=(gLt hx)
     obtain ⟨hb1,hb2⟩:=chk_bd x (d+1) m hm2
     have ih':=ih x (gMem hx) (d+1) m (by omega) hm2 (by omega) (by omega)
     rw [chks_at hx] at hv
     generalize x.chk (d+1) m=y at hv ih' hb1 hb2
     obtain ⟨m2,e2⟩:=y
     obtain ⟨k1,ks1,p1,vs1,lo1,hi1⟩:=x
     rw [Cond.row_mk] at ih'
     dsimp only at hv ih' hb1 hb2
     repeat'((conv=>whnf);first|(try(first|apply eN|apply eI|apply eC);conv=>whnf);apply sD;(focus(try intro hc;have hc0:=hc;(try simp only[SPLT]at hc);try refine and0 ?_);first|(exact idx_row hx rfl)|(refine gx (ownFault_sem ?_ ?_ ?_ ?_ ?_ ?_)<;>exact pre)|exact sideG)|((with_reducible apply CallO.go);(conv=>whnf);apply sD;(focus first|(apply giveso_g (ih');all_goals exact preO)))|apply rR|apply rE|apply rH| (apply cD<;>intro hb<;>(try simp only[SPLT]at hb)<;>try exact noB))
     all_goals try exact false
     ·rw [if_pos (by omega)] at hv
      subst hv
      exact finR
     ·rw [if_neg (by omega)] at hv
      refine ⟨(i+1,m2),⟨by dsimp only;omega,by dsimp only;omega,by dsimp only;omega,hv⟩,by dsimp only;omega,?_⟩
      exact finF
theorem condO_sem (c:Cond) (d n:Int) (h0:0≤n) (h1:n≤200) (h2:0≤d) (h3:d≤1000):SemO Tryz.prog 16 (.obj [.int .i64 n]) [.agg c.row,.int .i64 d] (.int .i64 (c.chk d n).2) (some (.obj [.int .i64 (c.chk d n).1])):=cond_sem c d n h0 h1 h2 h3
def Cond.err (c:Cond):Int:=(c.chk 0 0).2
theorem checkCond_sem (c:Cond):Sem Tryz.prog 8 [.agg c.row] (.int .i64 c.err):=by
 have h:=cond_sem c 0 0 (by omega) (by omega) (by omega) (by omega)
 unfold Cond.err
 generalize c.chk 0 0=y at h ⊢
 obtain ⟨m,e⟩:=y
 obtain ⟨k,ks,p,vs,lo,hi⟩:=c
 rw [Cond.row_mk] at h ⊢
 dsimp only at h ⊢
 refine si [4,1000016] Tryz.func8 ?_
 repeat'((conv=>whnf);first|(try(first|apply eN|apply eI|apply eC);conv=>whnf);apply sD;(focus first|exact side)|((with_reducible apply CallO.go);(conv=>whnf);apply sD;(focus first|(apply giveso_g (h);all_goals exact preO)))|apply rR|apply rE|apply rH| (apply cD<;>intro hb<;>(try simp only[SPLT]at hb)<;>try exact noB))
 all_goals try exact false
 exact finR
inductive Cond.Txt:Cond→Prop where
 |mk {k:Int} {ks:List Cond} {p:Str} {vs:List Str} {lo hi:Int} (hp:p.length≤9223372036854775807) (hv:∀ v ∈ vs,v.length≤9223372036854775807) (hk:∀ x ∈ ks,x.Txt):(Cond.mk k ks p vs lo hi).Txt
def escB (x:UInt8):Str:=if x=34∨x=92 then [92,x] else [x]
def escS (s:Str):Str:=s.flatMap escB
def quoteS (s:Str):Str:=34::(escS s ++ [34])
def commaJ (l:List Str):Str:=Lib.join l [44,32]
def fromTo (lo hi:Int):Str := [32,102,114,111,109,32]++Lib.itoa lo ++ [32,116,111,32]++Lib.itoa hi
mutual
def Cond.text:Cond→Str
 |.mk k ks p vs lo hi=>
  if k=1 then [97,108,108,40]++commaJ (Cond.texts ks) ++ [41]
  else if k=2 then [97,110,121,40]++commaJ (Cond.texts ks) ++ [41]
  else if k=3 then [110,111,116,40]++commaJ (Cond.texts ks) ++ [41]
  else if k=4 then [116,104,101,114,101,32]++p
  else if k=6 then [99,111,117,110,116,32]++p++fromTo lo hi
  else if k=9 then p++fromTo lo hi
  else if k=7 then [101,97,99,104,32]++p ++ [32,40]++commaJ (Cond.texts ks) ++ [41]
  else if k=8 then [115,111,109,101,32]++p ++ [32,40]++commaJ (Cond.texts ks) ++ [41]
  else p ++ [32,105,110,32,40]++commaJ (vs.map quoteS) ++ [41]
def Cond.texts:List Cond→List Str
 |[] => []
 |c::l=>c.text::Cond.texts l
end
theorem texts_map (l:List Cond):Cond.texts l=l.map Cond.text:=by
 induction l with
 |nil=>rw [Cond.texts,List.map_nil]
 |cons c l ih=>rw [Cond.texts,List.map_cons,ih]
theorem escS_at {s:Str} {k:Nat} {x:UInt8} (h:s[k]?=some x):escS (s.take (k+1))=escS (s.take k)++escB x:=by
 unfold escS
 rw [List.take_add_one,h,Option.toList_some,List.flatMap_append]
 simp
theorem escB_len (x:UInt8):(escB x).length≤2:=by
 unfold escB
 split<;>simp
theorem escS_len (s:Str):(escS s).length≤2 * s.length:=by
 induction s with
 |nil=>simp [escS]
 |cons x s ih=>
  have h:=escB_len x
  unfold escS at ih ⊢
  rw [List.flatMap_cons,List.length_append,List.length_cons]
  omega
inductive Cond.Wr:Cond→Prop where
 |mk {k:Int} {ks:List Cond} {p:Str} {vs:List Str} {lo hi:Int} (hp:p.length≤1000) (hv:vs.length≤1000∧∀ v ∈ vs,v.length≤1000) (hk:ks.length≤1000) (hlo : -9223372036854775808≤lo∧lo≤9223372036854775807) (hhi : -9223372036854775808≤hi∧hi≤9223372036854775807) (h:∀ x ∈ ks,x.Wr):(Cond.mk k ks p vs lo hi).Wr
abbrev Pl:=Nat × Bool
def isStop (c:UInt8):Bool:=c == 32 || c == 40 || c == 41 || c == 44
def part (s:Str) (i j:Nat):Str:=(s.drop i).take (j - i)
def startsAt (s t:Str) (i:Nat):Bool:=t.isPrefixOf (s.drop i)
def wantI (s:Str):Str→Nat→Pl
 |[],i=>(i,false)
 |x::t,i=>if s[i]?=some x then wantI s t (i+1) else (i,true)
def wantS (s t:Str) (q:Pl):Pl:=if q.2=true then q else wantI s t q.1
def isS (s t:Str) (q:Pl):Bool := !q.2 && startsAt s t q.1
def pathEnd (s:Str) (i:Nat):Nat:=i+((s.drop i).takeWhile fun c => !isStop c).length
def pathS (s:Str) (q:Pl):Str × Pl:=if q.2=true then ([],q) else (part s q.1 (pathEnd s q.1),pathEnd s q.1,pathEnd s q.1 == q.1)
def digAt (s:Str) (i:Nat):Bool:=match s[i]? with|some c=>digByte c|none=>false
def digsEnd (s:Str):Nat→Nat→Nat
 |0,i=>i
 |n+1,i=>if digAt s i=true then digsEnd s n (i+1) else i
def numV (s:Str):Int:=match s with|45::r => - valN r|r=>valN r
def numF (s:Str) (i:Nat):Nat:=if startsAt s [45] i=true then i+1 else i
def numE (s:Str) (f:Nat):Nat:=if s[f]?=some 48 then f+1 else digsEnd s 13 f
def numI (s:Str) (i:Nat):Int × Pl:=
 if digAt s (numF s i)=false∨(startsAt s [45] i=true∧s[numF s i]?=some 48) then (0,numF s i,true)
 else if digAt s (numE s (numF s i))=true then (0,numE s (numF s i),true) else (numV (part s i (numE s (numF s i))),numE s (numF s i),false)
def numS (s:Str) (q:Pl):Int × Pl:=if q.2=true then (0,q) else numI s q.1
def quoI (s:Str):Nat→Nat→Str→Str × Pl
 |0,i,out=>(out,i,true)
 |n+1,i,out=>match s[i]? with
  |none=>(out,i,true)
  |some c=>if c=34 then (out,i+1,false)
   else if c=92 then (match s[i+1]? with
    |none=>(out,i+1,true)
    | some d=>if d=34∨d=92 then quoI s n (i+2) (out ++ [d]) else (out,i+1,true))
   else quoI s n (i+1) (out ++ [c])
def quoS (s:Str) (q:Pl):Str × Pl:=if (wantS s [34] q).2=true then ([],wantS s [34] q) else quoI s (s.length+1) (wantS s [34] q).1 []
def sevS {α:Type} (one:Pl→α × Pl) (s:Str):Nat→Pl→List α × Pl
 |0,q=>([],q.1,true)
 |m+1,q=>
  if (one q).2.2=true then ([(one q).1],(one q).2)
  else if isS s [41] (one q).2=true then ([(one q).1],(one q).2.1+1,false)
  else ((one q).1::(sevS one s m (wantS s [44,32] (one q).2)).1,(sevS one s m (wantS s [44,32] (one q).2)).2)
def oneS {α:Type} (one:Pl→α × Pl) (s:Str) (q:Pl):List α × Pl:=([(one q).1],wantS s [41] (one q).2)
def endsS (s:Str) (q:Pl):(Int × Int) × Pl:=(((numS s q).1,(numS s (wantS s [32,116,111,32] (numS s q).2)).1),(numS s (wantS s [32,116,111,32] (numS s q).2)).2)
def zeroC:Cond:=.mk 0 [] [] [] 0 0
def wAll:Str := [97,108,108,40]
def wAny:Str := [97,110,121,40]
def wNot:Str := [110,111,116,40]
def wThere:Str := [116,104,101,114,101,32]
def wCount:Str := [99,111,117,110,116,32]
def wEach:Str := [101,97,99,104,32]
def wSome:Str := [115,111,109,101,32]
def wIn:Str := [105,110,32,40]
def wFrom:Str := [102,114,111,109,32]
def testS (s:Str) (q:Pl):Cond × Pl:=
 let p:=pathS s q
 let b:=wantS s [32] p.2
 if isS s wIn b=true then (.mk 5 [] p.1 (sevS (quoS s) s (s.length+1) (b.1+4,false)).1 0 0,(sevS (quoS s) s (s.length+1) (b.1+4,false)).2)
 else if isS s wFrom b=true then (.mk 9 [] p.1 [] (endsS s (b.1+5,false)).1.1 (endsS s (b.1+5,false)).1.2,(endsS s (b.1+5,false)).2)
 else (.mk 0 [] p.1 [] 0 0,if startsAt s [102] b.1=true then wantS s wFrom b else wantS s wIn b)
def overS (one:Pl→Cond × Pl) (k:Int) (s:Str) (q:Pl):Cond × Pl:=
 (.mk k (oneS one s (wantS s [32,40] (pathS s q).2)).1 (pathS s q).1 [] 0 0,(oneS one s (wantS s [32,40] (pathS s q).2)).2)
def countS (s:Str) (q:Pl):Cond × Pl:=
 (.mk 6 [] (pathS s q).1 [] (endsS s (wantS s (32::wFrom) (pathS s q).2)).1.1 (endsS s (wantS s (32::wFrom) (pathS s q).2)).1.2,(endsS s (wantS s (32::wFrom) (pathS s q).2)).2)
def pcS:Nat→Str→Pl→Cond × Pl
 |0,_,q=>(zeroC,q.1,true)
 |n+1,s,q=>
  if q.2=true then (zeroC,q)
  else if startsAt s wAll q.1=true then (.mk 1 (sevS (pcS n s) s (s.length+1) (q.1+4,false)).1 [] [] 0 0,(sevS (pcS n s) s (s.length+1) (q.1+4,false)).2)
  else if startsAt s wAny q.1=true then (.mk 2 (sevS (pcS n s) s (s.length+1) (q.1+4,false)).1 [] [] 0 0,(sevS (pcS n s) s (s.length+1) (q.1+4,false)).2)
  else if startsAt s wNot q.1=true then (.mk 3 (oneS (pcS n s) s (q.1+4,false)).1 [] [] 0 0,(oneS (pcS n s) s (q.1+4,false)).2)
  else if startsAt s wThere q.1=true then (.mk 4 [] (pathS s (q.1+6,false)).1 [] 0 0,(pathS s (q.1+6,false)).2)
  else if startsAt s wCount q.1=true then countS s (q.1+6,false)
  else if startsAt s wEach q.1=true then overS (pcS n s) 7 s (q.1+5,false)
  else if startsAt s wSome q.1=true then overS (pcS n s) 8 s (q.1+5,false)
  else testS s q
/-! What was read is the text of it. -/
structure Ate (s:Str) (i:Nat) (t:Str) (j:Nat):Prop where
 drop:s.drop i=t++s.drop j
 at_:j=i+t.length
theorem Ate.nil (s:Str) (i:Nat):Ate s i [] i:=⟨rfl,rfl⟩
theorem Ate.trans {s t u:Str} {i j k:Nat} (h:Ate s i t j) (g:Ate s j u k):Ate s i (t++u) k:=
 ⟨by rw [h.drop,g.drop,List.append_assoc],by rw [g.at_,h.at_,List.length_append];omega⟩
theorem Ate.of {s t r:Str} {i:Nat} (h:s.drop i=t++r):Ate s i t (i+t.length)∧s.drop (i+t.length)=r:=by
 have e:s.drop (i+t.length)=r:=by rw [← List.drop_drop,h,List.drop_left]
 exact ⟨⟨by rw [e,h],rfl⟩,e⟩
theorem drop_atX {s:Str} {i:Nat} {x:UInt8} (h:s[i]?=some x):s.drop i=x::s.drop (i+1):=by
 obtain ⟨hl,rfl⟩:=List.getElem?_eq_some_iff.1 h
 exact List.drop_eq_getElem_cons hl
theorem at_drop {s r:Str} {i:Nat} {x:UInt8} (h:s.drop i=x::r):s[i]?=some x:=by
 have:(s.drop i)[0]?=some x:=by rw [h];rfl
 simpa using this
theorem want_ate {s:Str}:∀ (t:Str) (i:Nat),(wantI s t i).2=false→Ate s i t (wantI s t i).1
 |[],i,_=>Ate.nil s i
 |x::t,i,h=>by
  unfold wantI at h ⊢
  split at h
  ·rename_i hx
   rw [if_pos hx]
   have g:=want_ate t (i+1) h
   exact ⟨by rw [drop_atX hx,g.drop];rfl,by rw [g.at_,List.length_cons];omega⟩
  ·cases h
theorem want_of {s r:Str}:∀ (t:Str) (i:Nat),s.drop i=t++r→wantI s t i=(i+t.length,false)
 |[],i,_=>rfl
 |x::t,i,h=>by
  unfold wantI
  rw [if_pos (at_drop h)]
  have:s.drop (i+1)=t++r:=by rw [← List.drop_drop,h];rfl
  rw [want_of t (i+1) this,List.length_cons,show i+1+t.length=i+(t.length+1) by omega]
theorem wantS_ate {s t:Str} {q:Pl} (h:(wantS s t q).2=false):q.2=false∧Ate s q.1 t (wantS s t q).1:=by
 unfold wantS at h ⊢
 split at h
 ·rename_i hq;rw [hq] at h;cases h
 ·rename_i hq
  rw [if_neg hq]
  exact ⟨by simpa using hq,want_ate t q.1 h⟩
theorem starts_iff {s t:Str} {i:Nat}:startsAt s t i=true↔∃ r,s.drop i=t++r:=by
 unfold startsAt
 rw [List.isPrefixOf_iff_prefix]
 constructor
 ·rintro ⟨r,hr⟩;exact ⟨r,hr.symm⟩
 ·rintro ⟨r,hr⟩;exact ⟨r,hr.symm⟩
theorem starts_ate {s t:Str} {i:Nat} (h:startsAt s t i=true):Ate s i t (i+t.length):=by
 obtain ⟨r,hr⟩:=starts_iff.1 h
 exact (Ate.of hr).1
theorem isS_ate {s t:Str} {q:Pl} (h:isS s t q=true):q.2=false∧Ate s q.1 t (q.1+t.length):=by
 unfold isS at h
 rw [Bool.and_eq_true,Bool.not_eq_true'] at h
 exact ⟨h.1,starts_ate h.2⟩
theorem take_while (p:UInt8→Bool) (l:Str):l.take (l.takeWhile p).length=l.takeWhile p:=by
 induction l with
 |nil=>rfl
 |cons a l ih=>
  simp only [List.takeWhile_cons]
  split
  ·rw [List.length_cons,List.take_succ_cons,ih]
  ·rfl
theorem part_path (s:Str) (i:Nat):part s i (pathEnd s i)=(s.drop i).takeWhile fun c => !isStop c:=by
 unfold part pathEnd
 rw [Nat.add_sub_cancel_left,take_while]
theorem pathS_ate {s:Str} {q:Pl} (h:(pathS s q).2.2=false):q.2=false∧Ate s q.1 (pathS s q).1 (pathS s q).2.1:=by
 unfold pathS at h ⊢
 split at h
 ·rename_i hq;rw [hq] at h;cases h
 ·rename_i hq
  rw [if_neg hq]
  refine ⟨by simpa using hq,?_⟩
  dsimp only
  rw [part_path]
  unfold pathEnd
  exact (Ate.of (List.takeWhile_append_dropWhile (p:=fun c => !isStop c)).symm).1
theorem digs_ate {s:Str}:∀ (n i:Nat),∃ t:Str,Ate s i t (digsEnd s n i)∧t.all digByte=true∧t.length≤n∧(0 < n→digAt s i=true→1≤t.length)
 |0,i=>⟨[],Ate.nil s i,rfl,Nat.le_refl _,fun h=>absurd h (by omega)⟩
 |n+1,i=>by
  unfold digsEnd
  split
  ·rename_i hd
   obtain ⟨t,h1,h2,h3,_⟩:=digs_ate n (i+1)
   unfold digAt at hd
   cases hx:s[i]? with
   |none=>rw [hx] at hd;cases hd
   |some c=>
    rw [hx] at hd
    have hd:digByte c=true:=hd
    refine ⟨c::t,⟨by rw [drop_atX hx,h1.drop];rfl,by rw [h1.at_,List.length_cons];omega⟩,by rw [List.all_cons,h2,hd];rfl,by rw [List.length_cons];omega,fun _ _=>by rw [List.length_cons];omega⟩
  ·rename_i hd
   exact ⟨[],Ate.nil s i,rfl,Nat.zero_le _,fun _ h=>absurd h hd⟩
theorem canon_itoa:∀ (n:Nat) (w:List UInt8),w.length=n→1≤w.length→w.all digByte=true→headZero w=false→Lib.decDigits (valN w).toNat=w
 |0,w,hn,h1,_,_=>by omega
 |n+1,w,hn,h1,hd,hz=>by
  rcases List.eq_nil_or_concat w with rfl|⟨l,c,rfl⟩
  ·simp at h1
  ·rw [List.concat_eq_append] at hn hd hz ⊢
   rw [List.all_append,Bool.and_eq_true] at hd
   have hc:=hd.2
   simp only [List.all_cons,List.all_nil,Bool.and_true,digByte,Bool.and_eq_true,decide_eq_true_eq] at hc
   have hcc:UInt8.ofNat (48+(c.toNat - 48))=c:=by
    rw [show 48+(c.toNat - 48)=c.toNat by omega]
    exact UInt8.ofNat_toNat
   rw [valN_snoc]
   cases l with
   |nil=>
    have e:(10 * valN []+((c.toNat:Int) - 48)).toNat=c.toNat - 48:=by simp [valN];omega
    rw [e,Lib.decDigits,dif_pos (by omega),hcc]
    rfl
   |cons a l=>
    have hz1:a.toNat ≠ 48:=by
     unfold headZero at hz
     simp only [Bool.and_eq_false_iff,decide_eq_false_iff_not] at hz
     rcases hz with hz|hz
     ·simp at hz
     ·simpa using hz
    have hv:=valN_bd hd.1
    have ih:=canon_itoa n (a::l) (by simpa using hn) (by simp) hd.1 (by
     unfold headZero
     simp only [Bool.and_eq_false_iff,decide_eq_false_iff_not]
     exact .inr (by simpa using hz1))
    have hpos:1≤valN (a::l):=by
     by_cases hp:valN (a::l)=0
     ·rw [hp] at ih
      exfalso
      rw [show (0:Int).toNat=0 from rfl,Lib.decDigits,dif_pos (by decide)] at ih
      have h2:=List.cons.inj ih
      apply hz1
      rw [← h2.1]
      rfl
     ·omega
    have e:(10 * valN (a::l)+((c.toNat:Int) - 48)).toNat=10 * (valN (a::l)).toNat+(c.toNat - 48):=by omega
    rw [e,Lib.decDigits,dif_neg (by omega),show (10 * (valN (a::l)).toNat+(c.toNat - 48)) / 10=(valN (a::l)).toNat by omega,ih,show (10 * (valN (a::l)).toNat+(c.toNat - 48)) % 10=c.toNat - 48 by omega,hcc]
theorem digAt_some {s:Str} {i:Nat} (h:digAt s i=true):∃ c,s[i]?=some c∧digByte c=true:=by
 unfold digAt at h
 cases hx:s[i]? with
 |none=>rw [hx] at h;cases h
 |some c=>rw [hx] at h;exact ⟨c,rfl,h⟩
theorem numE_ate {s:Str} {f:Nat} (h:digAt s f=true):∃ t:Str,Ate s f t (numE s f)∧t.all digByte=true∧1≤t.length∧t.length≤13∧headZero t=false∧(s[f]? ≠ some 48→∃ a r,t=a::r∧a.toNat ≠ 48):=by
 obtain ⟨c,hc,hd⟩:=digAt_some h
 unfold numE
 split
 ·rename_i h48
  refine ⟨[48],⟨drop_atX h48,rfl⟩,rfl,by simp,by simp,rfl,fun h=>absurd h48 h⟩
 ·rename_i h48
  obtain ⟨t,h1,h2,h3,h4⟩:=digs_ate (s:=s) 13 f
  have h5:=h4 (by omega) h
  cases t with
  |nil=>simp at h5
  |cons a t=>
   have ha:a=c:=by
    have:=h1.drop
    rw [drop_atX hc] at this
    exact (List.cons.inj this).1.symm
   have h6:a.toNat ≠ 48:=fun e=>h48 (by rw [hc,← ha];congr 1;exact UInt8.toNat_inj.1 e)
   exact ⟨_,h1,h2,h5,h3,by unfold headZero;simp [h6],fun _=>⟨a,t,rfl,h6⟩⟩
theorem part_ate {s t:Str} {i j:Nat} (h:Ate s i t j):part s i j=t:=by
 unfold part
 rw [h.at_,Nat.add_sub_cancel_left,h.drop,List.take_left]
theorem itoa_dig {t:Str} (h1:t.all digByte=true) (h2:1≤t.length) (h3:headZero t=false):Lib.itoa (valN t)=t:=by
 have hv:=valN_bd h1
 unfold Lib.itoa
 rw [if_neg (by omega)]
 exact canon_itoa _ t rfl h2 h1 h3
theorem pos_dig {a:UInt8} {r:Str} (h1:(a::r).all digByte=true) (h2:a.toNat ≠ 48):1≤valN (a::r):=by
 have hv:=valN_bd h1
 have h3:headZero (a::r)=false:=by unfold headZero;simp [h2]
 by_cases hp:valN (a::r)=0
 ·have:=canon_itoa _ (a::r) rfl (by simp) h1 h3
  rw [hp,show (0:Int).toNat=0 from rfl,Lib.decDigits,dif_pos (by decide)] at this
  have h4:=(List.cons.inj this).1
  exact absurd (by rw [← h4];rfl) h2
 ·omega
theorem numV_dig {t:Str} (h1:t.all digByte=true):numV t=valN t:=by
 unfold numV
 split
 ·rename_i r
  rw [List.all_cons] at h1
  exact absurd h1 (by simp [digByte])
 ·rfl
theorem numS_ate {s:Str} {q:Pl} (h:(numS s q).2.2=false):q.2=false∧Ate s q.1 (Lib.itoa (numS s q).1) (numS s q).2.1 ∧ -10000000000000 < (numS s q).1∧(numS s q).1 < 10000000000000:=by
 unfold numS at h ⊢
 split at h
 ·rename_i hq;rw [hq] at h;cases h
 ·rename_i hq
  rw [if_neg hq]
  refine ⟨by simpa using hq,?_⟩
  unfold numI at h ⊢
  split at h
  ·cases h
  ·rename_i h1
   rw [if_neg h1]
   split at h
   ·cases h
   ·rename_i h2
    rw [if_neg h2]
    dsimp only
    rw [not_or,not_and] at h1
    obtain ⟨h1,h3⟩:=h1
    obtain ⟨t,a1,a2,a3,a4,a5,a6⟩:=numE_ate (by simpa using h1:digAt s (numF s q.1)=true)
    have hv:=valN_bd a2
    have hp:(10:Int) ^ t.length≤10 ^ 13:=by exact_mod_cast Nat.pow_le_pow_right (by decide) a4
    by_cases hm:startsAt s [45] q.1=true
    ·have e:numF s q.1=q.1+1:=by unfold numF;rw [if_pos hm]
     rw [e] at a1 ⊢
     have g:Ate s q.1 (45::t) (numE s (q.1+1)):=(starts_ate hm).trans a1
     rw [part_ate g]
     obtain ⟨b,r,rfl,hb⟩:=a6 (h3 hm)
     have hpos:=pos_dig a2 hb
     have e2:Lib.itoa (numV (45::(b::r)))=45::(b::r):=by
      have:=itoa_dig a2 a3 a5
      show Lib.itoa (- valN (b::r))=_
      unfold Lib.itoa at this ⊢
      rw [if_neg (by omega)] at this
      rw [if_pos (by omega),show (- valN (b::r)).natAbs=(valN (b::r)).toNat by omega,this]
     refine ⟨by rw [e2];exact g,?_⟩
     show -10000000000000 < - valN (b::r) ∧ - valN (b::r) < 10000000000000
     omega
    ·have e:numF s q.1=q.1:=by unfold numF;rw [if_neg hm]
     rw [e] at a1 ⊢
     rw [part_ate a1,numV_dig a2,itoa_dig a2 a3 a5]
     exact ⟨a1,by omega,by omega⟩
theorem escS_cons (x:UInt8) (v:Str):escS (x::v)=escB x++escS v:=rfl
theorem quoI_ate {s:Str}:∀ (n i:Nat) (out:Str),(quoI s n i out).2.2=false→∃ v,(quoI s n i out).1=out++v∧Ate s i (escS v ++ [34]) (quoI s n i out).2.1
 |0,i,out,h=>by cases h
 |n+1,i,out,h=>by
  unfold quoI at h ⊢
  cases hx:s[i]? with
  |none=>rw [hx] at h;cases h
  |some c=>
   rw [hx] at h
   dsimp only at h ⊢
   by_cases h34:c=34
   ·subst h34
    rw [if_pos rfl]
    exact ⟨[],by rw [List.append_nil],⟨drop_atX hx,rfl⟩⟩
   ·rw [if_neg h34] at h ⊢
    by_cases h92:c=92
    ·subst h92
     rw [if_pos rfl] at h ⊢
     cases hy:s[i+1]? with
     |none=>rw [hy] at h;cases h
     |some d=>
      rw [hy] at h
      dsimp only at h ⊢
      by_cases hd:d=34∨d=92
      ·rw [if_pos hd] at h ⊢
       obtain ⟨v,h1,h2⟩:=quoI_ate n (i+2) (out ++ [d]) h
       refine ⟨d::v,by rw [h1,List.append_assoc];rfl,?_⟩
       have e:escB d = [92,d]:=by unfold escB;rw [if_pos hd]
       rw [escS_cons,e]
       exact ⟨by rw [drop_atX hx,drop_atX hy,h2.drop];rfl,by rw [h2.at_];simp;omega⟩
      ·rw [if_neg hd] at h
       cases h
    ·rw [if_neg h92] at h ⊢
     obtain ⟨v,h1,h2⟩:=quoI_ate n (i+1) (out ++ [c]) h
     refine ⟨c::v,by rw [h1,List.append_assoc];rfl,?_⟩
     have e:escB c = [c]:=by unfold escB;rw [if_neg (by simp [h34,h92])]
     rw [escS_cons,e]
     exact ⟨by rw [drop_atX hx,h2.drop];rfl,by rw [h2.at_];simp;omega⟩
theorem quoS_ate {s:Str} {q:Pl} (h:(quoS s q).2.2=false):q.2=false∧Ate s q.1 (quoteS (quoS s q).1) (quoS s q).2.1:=by
 unfold quoS at h ⊢
 split at h
 ·rename_i hq;rw [hq] at h;cases h
 ·rename_i hq
  rw [if_neg hq]
  obtain ⟨h1,h2⟩:=wantS_ate (by simpa using hq:(wantS s [34] q).2=false)
  obtain ⟨v,h3,h4⟩:=quoI_ate _ _ _ h
  rw [List.nil_append] at h3
  rw [h3]
  exact ⟨h1,h2.trans h4⟩
theorem sevS_ne {α:Type} {one:Pl→α × Pl} {s:Str} {m:Nat} {q:Pl} (h:(sevS one s m q).2.2=false):(sevS one s m q).1 ≠ []:=by
 cases m with
 |zero=>cases h
 |succ m=>
  unfold sevS
  split
  ·simp
  ·split<;>simp
theorem commaJ_one (x:Str):commaJ [x]=x:=by
 unfold commaJ
 rw [Lib.join_cons]
 simp [Lib.joinTail]
theorem commaJ_cons (x:Str) (l:List Str) (h:l ≠ []):commaJ (x::l)=x++([44,32]++commaJ l):=by
 cases l with
 |nil=>exact absurd rfl h
 |cons y r=>
  unfold commaJ
  rw [Lib.join_cons,Lib.join_cons]
  simp [Lib.joinTail]
theorem sevS_ate {α:Type} {one:Pl→α × Pl} {s:Str} (tx:α→Str) (hone:∀ q,(one q).2.2=false→q.2=false∧Ate s q.1 (tx (one q).1) (one q).2.1):∀ (m:Nat) (q:Pl),(sevS one s m q).2.2=false→q.2=false∧Ate s q.1 (commaJ ((sevS one s m q).1.map tx) ++ [41]) (sevS one s m q).2.1
 |0,q,h=>by cases h
 |m+1,q,h=>by
  unfold sevS at h ⊢
  split at h
  ·rename_i hb
   rw [hb] at h
   cases h
  ·rename_i hb
   obtain ⟨h1,h2⟩:=hone q (by simpa using hb)
   rw [if_neg hb]
   split at h
   ·rename_i hs
    rw [if_pos hs]
    obtain ⟨_,h3⟩:=isS_ate hs
    rw [List.map_cons,List.map_nil,commaJ_one]
    exact ⟨h1,h2.trans h3⟩
   ·rename_i hs
    rw [if_neg hs]
    obtain ⟨h3,h4⟩:=sevS_ate tx hone m _ h
    obtain ⟨_,h5⟩:=wantS_ate h3
    have hne:=sevS_ne h
    rw [List.map_cons,commaJ_cons _ _ (by simpa using hne)]
    refine ⟨h1,?_⟩
    have:=(h2.trans h5).trans h4
    simpa [List.append_assoc] using this
theorem endsS_ate {s:Str} {q:Pl} (h:(endsS s q).2.2=false):q.2=false∧Ate s q.1 (Lib.itoa (endsS s q).1.1++([32,116,111,32]++Lib.itoa (endsS s q).1.2)) (endsS s q).2.1:=by
 unfold endsS at h ⊢
 dsimp only at h ⊢
 obtain ⟨h1,h2,_⟩:=numS_ate h
 obtain ⟨h3,h4⟩:=wantS_ate h1
 obtain ⟨h5,h6,_⟩:=numS_ate h3
 exact ⟨h5,h6.trans (h4.trans h2)⟩
theorem text_mk (k:Int) (ks:List Cond) (p:Str) (vs:List Str) (lo hi:Int):(Cond.mk k ks p vs lo hi).text =
  (if k=1 then [97,108,108,40]++commaJ (ks.map Cond.text) ++ [41]
  else if k=2 then [97,110,121,40]++commaJ (ks.map Cond.text) ++ [41]
  else if k=3 then [110,111,116,40]++commaJ (ks.map Cond.text) ++ [41]
  else if k=4 then [116,104,101,114,101,32]++p
  else if k=6 then [99,111,117,110,116,32]++p++fromTo lo hi
  else if k=9 then p++fromTo lo hi
  else if k=7 then [101,97,99,104,32]++p ++ [32,40]++commaJ (ks.map Cond.text) ++ [41]
  else if k=8 then [115,111,109,101,32]++p ++ [32,40]++commaJ (ks.map Cond.text) ++ [41]
  else p ++ [32,105,110,32,40]++commaJ (vs.map quoteS) ++ [41]):=by
 rw [Cond.text,texts_map]
theorem testS_ate {s:Str} {q:Pl} (h:(testS s q).2.2=false):q.2=false∧Ate s q.1 (testS s q).1.text (testS s q).2.1:=by
 unfold testS at h ⊢
 dsimp only at h ⊢
 split at h
 ·rename_i hi
  rw [if_pos hi]
  dsimp only at h ⊢
  obtain ⟨h1,h2⟩:=isS_ate hi
  obtain ⟨h3,h4⟩:=wantS_ate h1
  obtain ⟨h5,h6⟩:=pathS_ate h3
  obtain ⟨_,h7⟩:=sevS_ate quoteS (fun q=>quoS_ate) _ _ h
  refine ⟨h5,?_⟩
  rw [text_mk]
  have:=((h6.trans h4).trans h2).trans h7
  simpa [wIn] using this
 ·rename_i hi
  rw [if_neg hi]
  split at h
  ·rename_i hf
   rw [if_pos hf]
   dsimp only at h ⊢
   obtain ⟨h1,h2⟩:=isS_ate hf
   obtain ⟨h3,h4⟩:=wantS_ate h1
   obtain ⟨h5,h6⟩:=pathS_ate h3
   obtain ⟨_,h7⟩:=endsS_ate h
   refine ⟨h5,?_⟩
   rw [text_mk]
   have:=((h6.trans h4).trans h2).trans h7
   simpa [wFrom,fromTo] using this
  ·rename_i hf
   exfalso
   dsimp only at h
   split at h
   ·obtain ⟨h1,h2⟩:=wantS_ate h
    exact hf (by unfold isS;rw [h1];exact starts_iff.2 ⟨_,h2.drop⟩)
   ·obtain ⟨h1,h2⟩:=wantS_ate h
    exact hi (by unfold isS;rw [h1];exact starts_iff.2 ⟨_,h2.drop⟩)
theorem oneS_ate {one:Pl→Cond × Pl} {s:Str} (hone:∀ q,(one q).2.2=false→q.2=false∧Ate s q.1 (one q).1.text (one q).2.1) {q:Pl} (h:(oneS one s q).2.2=false):q.2=false∧Ate s q.1 (commaJ ((oneS one s q).1.map Cond.text) ++ [41]) (oneS one s q).2.1:=by
 unfold oneS at h ⊢
 dsimp only at h ⊢
 obtain ⟨h1,h2⟩:=wantS_ate h
 obtain ⟨h3,h4⟩:=hone q h1
 rw [List.map_cons,List.map_nil,commaJ_one]
 exact ⟨h3,h4.trans h2⟩
theorem pcS_ate {s:Str}:∀ (n:Nat) (q:Pl),(pcS n s q).2.2=false→q.2=false∧Ate s q.1 (pcS n s q).1.text (pcS n s q).2.1
 |0,q,h=>by cases h
 |n+1,q,h=>by
  have ih:=pcS_ate (s:=s) n
  unfold pcS at h ⊢
  split at h
  ·rename_i hq;rw [hq] at h;cases h
  ·rename_i hq
   rw [if_neg hq]
   split at h
   ·rename_i h1
    rw [if_pos h1,text_mk]
    exact ⟨by simpa using hq,by simpa [wAll] using (starts_ate h1).trans (sevS_ate Cond.text ih _ _ h).2⟩
   ·rename_i h1
    rw [if_neg h1]
    split at h
    ·rename_i h1
     rw [if_pos h1,text_mk]
     exact ⟨by simpa using hq,by simpa [wAny] using (starts_ate h1).trans (sevS_ate Cond.text ih _ _ h).2⟩
    ·rename_i h1
     rw [if_neg h1]
     split at h
     ·rename_i h1
      rw [if_pos h1,text_mk]
      exact ⟨by simpa using hq,by simpa [wNot] using (starts_ate h1).trans (oneS_ate ih h).2⟩
     ·rename_i h1
      rw [if_neg h1]
      split at h
      ·rename_i h1
       rw [if_pos h1,text_mk]
       exact ⟨by simpa using hq,by simpa [wThere] using (starts_ate h1).trans (pathS_ate h).2⟩
      ·rename_i h1
       rw [if_neg h1]
       split at h
       ·rename_i h1
        rw [if_pos h1]
        unfold countS at h ⊢
        rw [text_mk]
        dsimp only at h ⊢
        obtain ⟨g1,g2⟩:=endsS_ate h
        obtain ⟨g3,g4⟩:=wantS_ate g1
        obtain ⟨_,g5⟩:=pathS_ate g3
        exact ⟨by simpa using hq,by simpa [wCount,wFrom,fromTo] using (starts_ate h1).trans (g5.trans (g4.trans g2))⟩
       ·rename_i h1
        rw [if_neg h1]
        split at h
        ·rename_i h1
         rw [if_pos h1]
         unfold overS at h ⊢
         rw [text_mk]
         dsimp only at h ⊢
         obtain ⟨g1,g2⟩:=oneS_ate ih h
         obtain ⟨g3,g4⟩:=wantS_ate g1
         obtain ⟨_,g5⟩:=pathS_ate g3
         exact ⟨by simpa using hq,by simpa [wEach] using (starts_ate h1).trans (g5.trans (g4.trans g2))⟩
        ·rename_i h1
         rw [if_neg h1]
         split at h
         ·rename_i h1
          rw [if_pos h1]
          unfold overS at h ⊢
          rw [text_mk]
          dsimp only at h ⊢
          obtain ⟨g1,g2⟩:=oneS_ate ih h
          obtain ⟨g3,g4⟩:=wantS_ate g1
          obtain ⟨_,g5⟩:=pathS_ate g3
          exact ⟨by simpa using hq,by simpa [wSome] using (starts_ate h1).trans (g5.trans (g4.trans g2))⟩
         ·rename_i h1
          rw [if_neg h1]
          exact testS_ate h
theorem wantS_of {s t r:Str} {i:Nat} (h:s.drop i=t++r):wantS s t (i,false)=(i+t.length,false):=by
 unfold wantS
 rw [if_neg (by simp)]
 exact want_of t i h
theorem starts_of {s t r:Str} {i:Nat} (h:s.drop i=t++r):startsAt s t i=true:=starts_iff.2 ⟨r,h⟩
theorem isS_of {s t r:Str} {i:Nat} (h:s.drop i=t++r):isS s t (i,false)=true:=by
 unfold isS
 rw [starts_of h]
 rfl
theorem starts_no {s t u:Str} {i k:Nat} (h:s.drop i=u) (hk:k < t.length) (hne:u[k]? ≠ t[k]?):startsAt s t i=false:=by
 cases hs:startsAt s t i with
 |false=>rfl
 |true=>
  obtain ⟨r,hr⟩:=starts_iff.1 hs
  exact absurd (by rw [← h,hr,List.getElem?_append_left hk]) hne
theorem drop_next {s t r:Str} {i:Nat} (h:s.drop i=t++r):s.drop (i+t.length)=r:=(Ate.of h).2
def RowOk (p:Str):Prop:=p ≠ []∧p.all (fun c => !isStop c)=true
def StopAt (r:Str):Prop:=r = []∨∃ x t,r=x::t∧isStop x=true
theorem takeWhile_of {p r:Str} (hp:p.all (fun c => !isStop c)=true) (hr:StopAt r):(p++r).takeWhile (fun c => !isStop c)=p:=by
 induction p with
 |nil=>
  rcases hr with rfl|⟨x,t,rfl,hx⟩
  ·rfl
  ·simp [List.takeWhile_cons,hx]
 |cons a p ih=>
  rw [List.all_cons,Bool.and_eq_true] at hp
  rw [List.cons_append,List.takeWhile_cons,if_pos hp.1,ih hp.2]
theorem pathS_of {s p r:Str} {i:Nat} (h:s.drop i=p++r) (hp:RowOk p) (hr:StopAt r):pathS s (i,false)=(p,i+p.length,false):=by
 unfold pathS
 rw [if_neg (by simp)]
 dsimp only
 rw [part_path]
 unfold pathEnd
 rw [h,takeWhile_of hp.2 hr]
 have:0 < p.length:=by
  cases p with
  |nil=>exact absurd rfl hp.1
  |cons a p=>simp
 have e:(i+p.length == i)=false:=by rw [beq_eq_false_iff_ne];omega
 rw [e]
def NoDig (r:Str):Prop:=r = []∨∃ x t,r=x::t∧digByte x=false
theorem digAt_of {s r:Str} {i:Nat} {x:UInt8} (h:s.drop i=x::r):digAt s i=digByte x:=by
 unfold digAt
 rw [at_drop h]
theorem digAt_no {s r:Str} {i:Nat} (h:s.drop i=r) (hr:NoDig r):digAt s i=false:=by
 rcases hr with rfl|⟨x,t,rfl,hx⟩
 ·unfold digAt
  have:s[i]?=none:=by rw [List.getElem?_eq_none_iff];exact List.drop_eq_nil_iff.1 h
  rw [this]
 ·rw [digAt_of h,hx]
theorem digs_of {s r:Str} (hr:NoDig r):∀ (t:Str) (n i:Nat),s.drop i=t++r→t.all digByte=true→t.length≤n→digsEnd s n i=i+t.length
 |[],n,i,h,_,_=>by
  cases n with
  |zero=>rfl
  |succ n=>
   unfold digsEnd
   rw [if_neg (by rw [digAt_no h hr];simp)]
   rfl
 |c::t,n,i,h,hd,hl=>by
  cases n with
  |zero=>simp at hl
  |succ n=>
   rw [List.all_cons,Bool.and_eq_true] at hd
   unfold digsEnd
   have e:digAt s i=true:=by rw [digAt_of (r:=t++r) h,hd.1]
   rw [if_pos e,digs_of hr t n (i+1) (by rw [← List.drop_drop,h];rfl) hd.2 (by simpa using hl),List.length_cons]
   omega
theorem dec_len:∀ (k u:Nat),u < 10 ^ (k+1)→(Lib.decDigits u).length≤k+1
 |0,u,h=>by
  rw [Lib.decDigits,dif_pos (by simpa using h)]
  simp
 |k+1,u,h=>by
  rw [Lib.decDigits]
  split
  ·simp
  ·have:=dec_len k (u / 10) (by rw [Nat.pow_succ] at h;omega)
   simp only [List.length_append,List.length_cons,List.length_nil]
   omega
theorem dec_all:∀ (k u:Nat),u < 10 ^ (k+1)→(Lib.decDigits u).all digByte=true∧valN (Lib.decDigits u)=u∧1≤(Lib.decDigits u).length∧(1≤u→((Lib.decDigits u).getD 0 0).toNat ≠ 48)
 |0,u,h=>by
  have h9:u < 10:=by simpa using h
  rw [Lib.decDigits,dif_pos h9]
  have e:(UInt8.ofNat (48+u)).toNat=48+u:=by rw [UInt8.toNat_ofNat'];omega
  refine ⟨?_,?_,by simp,fun h1 => ?_⟩
  ·simp only [List.all_cons,List.all_nil,Bool.and_true,digByte,e,Bool.and_eq_true,decide_eq_true_eq]
   omega
  ·simp only [valN,List.foldl_cons,List.foldl_nil,e]
   omega
  ·simp only [List.getD_cons_zero,e]
   omega
 |k+1,u,h=>by
  by_cases h9:u < 10
  ·exact dec_all 0 u (by simpa using h9)
  ·obtain ⟨i1,i2,i3,i4⟩:=dec_all k (u / 10) (by rw [Nat.pow_succ] at h;omega)
   rw [Lib.decDigits,dif_neg h9]
   have e:(UInt8.ofNat (48+u % 10)).toNat=48+u % 10:=by rw [UInt8.toNat_ofNat'];omega
   refine ⟨?_,?_,by simp,fun _ => ?_⟩
   ·rw [List.all_append,i1]
    simp only [List.all_cons,List.all_nil,Bool.and_true,Bool.true_and,digByte,e,Bool.and_eq_true,decide_eq_true_eq]
    omega
   ·rw [valN_snoc,i2,e]
    omega
   ·have h0:=i4 (by omega)
    cases hd:Lib.decDigits (u / 10) with
    |nil=>rw [hd] at i3;simp at i3
    |cons a l=>
     rw [hd] at h0
     simpa using h0
theorem dec_ok (u:Nat) (h:u < 10000000000000):(Lib.decDigits u).all digByte=true∧valN (Lib.decDigits u)=u∧∃ a r,Lib.decDigits u=a::r∧(a::r).length≤13∧(1≤u→a.toNat ≠ 48)∧(a=48→r = []):=by
 have h':u < 10 ^ (12+1):=by simpa using h
 obtain ⟨i1,i2,i3,i4⟩:=dec_all 12 u h'
 refine ⟨i1,i2,?_⟩
 have hl:=dec_len 12 u h'
 cases hd:Lib.decDigits u with
 |nil=>rw [hd] at i3;simp at i3
 |cons a r=>
  rw [hd] at i4 hl
  refine ⟨a,r,rfl,hl,fun h1=>by simpa using i4 h1,fun ha => ?_⟩
  subst ha
  by_cases h1:1≤u
  ·exact absurd rfl (i4 h1)
  ·obtain rfl:u=0:=by omega
   rw [Lib.decDigits,dif_pos (by omega)] at hd
   exact (List.cons.inj hd).2.symm
theorem numE_of {s r:Str} {f:Nat} {a:UInt8} {t:Str} (hr:NoDig r) (h:s.drop f=a::t++r) (hd:(a::t).all digByte=true) (hl:(a::t).length≤13) (h0:a=48→t = []):numE s f=f+(a::t).length:=by
 unfold numE
 rw [at_drop (r:=t++r) h]
 split
 ·rename_i e
  cases e
  rw [h0 rfl]
  rfl
 ·exact digs_of hr (a::t) 13 f h hd hl
theorem numS_of {s r:Str} {i:Nat} {n:Int} (hr:NoDig r) (h:s.drop i=Lib.itoa n++r) (h1 : -10000000000000 < n) (h2:n < 10000000000000):numS s (i,false)=(n,i+(Lib.itoa n).length,false):=by
 unfold numS
 rw [if_neg (by simp)]
 unfold numI
 dsimp only
 by_cases hn:n < 0
 ·obtain ⟨i1,i2,a,t,e,hl,hne,h0⟩:=dec_ok n.natAbs (by omega)
  have ei:Lib.itoa n=45::(a::t):=by unfold Lib.itoa;rw [if_pos hn,e]
  rw [ei] at h
  rw [e] at i1 i2
  have hst:startsAt s [45] i=true:=starts_of (r:=a::t++r) h
  have hf:numF s i=i+1:=by unfold numF;rw [if_pos hst]
  have h3:s.drop (i+1)=a::t++r:=by rw [← List.drop_drop,h];rfl
  have hE:=numE_of hr h3 i1 hl h0
  have i1':=i1
  rw [List.all_cons,Bool.and_eq_true] at i1'
  rw [hf,if_neg (by
   rw [digAt_of (r:=t++r) h3,i1'.1,at_drop (r:=t++r) h3]
   rintro (h|⟨_,h⟩)
   ·cases h
   ·cases h
    exact hne (by omega) rfl),hE,if_neg (by rw [digAt_no (drop_next h3) hr];simp),ei]
  have hp:part s i (i+1+(a::t).length)=45::(a::t):=part_ate ⟨by rw [h,drop_next h3],by simp;omega⟩
  rw [hp]
  have e3:numV (45::(a::t))=n:=by
   show - valN (a::t)=n
   omega
  rw [e3]
  simp only [List.length_cons]
  congr 2
  omega
 ·obtain ⟨i1,i2,a,t,e,hl,hne,h0⟩:=dec_ok n.toNat (by omega)
  have ei:Lib.itoa n=a::t:=by unfold Lib.itoa;rw [if_neg hn,e]
  rw [ei] at h
  rw [e] at i1 i2
  have i1':=i1
  rw [List.all_cons,Bool.and_eq_true] at i1'
  have hst:startsAt s [45] i=false:=starts_no (k:=0) h (by simp) (by
   intro h
   have h:a=45:=by simpa using h
   subst h
   exact absurd i1'.1 (by decide))
  have hf:numF s i=i:=by unfold numF;rw [if_neg (by rw [hst];simp)]
  have hE:=numE_of hr h i1 hl h0
  rw [hf,if_neg (by
   rw [digAt_of (r:=t++r) h,i1'.1,hst]
   simp),hE,if_neg (by rw [digAt_no (drop_next h) hr];simp),ei]
  have hp:part s i (i+(a::t).length)=a::t:=part_ate ⟨by rw [h,drop_next h],rfl⟩
  rw [hp,numV_dig i1]
  have e3:valN (a::t)=n:=by omega
  rw [e3]
theorem quoI_of {s r:Str}:∀ (v:Str) (n i:Nat) (out:Str),v.length < n→s.drop i=escS v++(34::r)→quoI s n i out=(out++v,i+(escS v).length+1,false)
 |[],n,i,out,hn,h=>by
  cases n with
  |zero=>omega
  |succ n=>
   unfold quoI
   rw [at_drop (r:=r) h]
   simp [escS]
 |c::v,n,i,out,hn,h=>by
  cases n with
  |zero=>omega
  |succ n=>
   rw [escS_cons] at h ⊢
   unfold quoI
   by_cases hc:c=34∨c=92
   ·have e:escB c = [92,c]:=by unfold escB;rw [if_pos hc]
    rw [e] at h ⊢
    have h2:s.drop (i+1)=c::(escS v++(34::r)):=by rw [← List.drop_drop,h];rfl
    have h3:s.drop (i+2)=escS v++(34::r):=by rw [show i+2=i+1+1 from rfl,← List.drop_drop,h2];rfl
    rw [at_drop (r:=c::(escS v++(34::r))) h]
    dsimp only
    rw [if_neg (by decide),if_pos rfl,at_drop h2]
    dsimp only
    rw [if_pos hc,quoI_of v n (i+2) _ (by simp at hn;omega) h3]
    simp only [List.append_assoc,List.cons_append,List.nil_append,List.length_cons]
    congr 2
    omega
   ·have e:escB c = [c]:=by unfold escB;rw [if_neg hc]
    rw [e] at h ⊢
    rw [not_or] at hc
    rw [at_drop (r:=escS v++(34::r)) h]
    dsimp only
    rw [if_neg hc.1,if_neg hc.2,quoI_of v n (i+1) _ (by simp at hn;omega) (by rw [← List.drop_drop,h];rfl)]
    simp only [List.append_assoc,List.cons_append,List.nil_append,List.length_cons]
    congr 2
    omega
theorem escS_ge (v:Str):v.length≤(escS v).length:=by
 induction v with
 |nil=>simp [escS]
 |cons c v ih=>
  rw [escS_cons,List.length_append,List.length_cons]
  have:1≤(escB c).length:=by unfold escB;split<;>simp
  omega
theorem quoS_of {s r v:Str} {i:Nat} (h:s.drop i=quoteS v++r):quoS s (i,false)=(v,i+(quoteS v).length,false):=by
 unfold quoS
 have h1:s.drop i = [34]++(escS v++(34::r)):=by rw [h];simp [quoteS]
 have h2:=wantS_of h1
 rw [h2,if_neg (by simp)]
 dsimp only
 have h3:=drop_next h1
 have hl:(escS v++(34::r)).length≤s.length:=by rw [← h3,List.length_drop];omega
 have hv:=escS_ge v
 rw [List.length_append] at hl
 rw [quoI_of v _ _ [] (by omega) h3]
 simp [quoteS]
 omega
theorem commaJ_long (l:List Str):l.length≤(commaJ l).length+1:=by
 induction l with
 |nil=>simp
 |cons x l ih=>
  by_cases h:l = []
  ·subst h
   rw [commaJ_one]
   simp
  ·rw [commaJ_cons x l h]
   simp
   omega
theorem commaJ_mem {l:List Str} {x:Str} (h:x ∈ l):x.length≤(commaJ l).length:=by
 induction l with
 |nil=>simp at h
 |cons y l ih=>
  by_cases h0:l = []
  ·subst h0
   rw [commaJ_one]
   rw [List.mem_singleton] at h
   rw [h]
   exact Nat.le_refl _
  ·rw [commaJ_cons y l h0,List.length_append,List.length_append]
   rcases List.mem_cons.1 h with rfl|h
   ·omega
   ·have:=ih h
    omega
def EndAt (r:Str):Prop:=r = []∨∃ x t,r=x::t∧(x=41∨x=44)
theorem sevS_of {α:Type} {one:Pl→α × Pl} {s:Str} (tx:α→Str):∀ (l:List α),l ≠ []→(∀ x ∈ l,∀ i r,s.drop i=tx x++r→EndAt r→one (i,false)=(x,i+(tx x).length,false))→∀ (m i:Nat) (r:Str),l.length≤m→s.drop i=commaJ (l.map tx)++(41::r)→sevS one s m (i,false)=(l,i+(commaJ (l.map tx)).length+1,false)
 |[],h,_,_,_,_,_,_=>absurd rfl h
 |x::l,_,hone,m,i,r,hm,h=>by
  cases m with
  |zero=>simp at hm
  |succ m=>
   unfold sevS
   by_cases hl:l = []
   ·subst hl
    rw [List.map_cons,List.map_nil,commaJ_one] at h ⊢
    rw [hone x (by simp) i _ h (.inr ⟨41,r,rfl,.inl rfl⟩)]
    dsimp only
    rw [if_neg (by simp),if_pos (isS_of (r:=r) (drop_next h))]
   ·rw [List.map_cons,commaJ_cons _ _ (by simpa using hl)] at h ⊢
    rw [List.append_assoc] at h
    rw [hone x (by simp) i _ h (.inr ⟨44,32::(commaJ (l.map tx)++(41::r)),by simp,.inr rfl⟩)]
    dsimp only
    have h2:=drop_next h
    rw [List.append_assoc] at h2
    rw [if_neg (by simp),if_neg (by
     unfold isS
     rw [starts_no (k:=0) h2 (by simp) (by simp)]
     simp),wantS_of h2]
    have h3:=drop_next h2
    rw [sevS_of tx l hl (fun y hy=>hone y (by simp [hy])) m _ r (by simpa using hm) h3]
    simp only [List.length_append]
    congr 2
    omega
theorem oneS_of {α:Type} {one:Pl→α × Pl} {s r:Str} {x:α} {i j:Nat} (h:one (i,false)=(x,j,false)) (hj:s.drop j=41::r):oneS one s (i,false)=([x],j+1,false):=by
 unfold oneS
 rw [h]
 dsimp only
 rw [wantS_of (t := [41]) (r:=r) hj]
 rfl
theorem endsS_of {s r:Str} {i:Nat} {lo hi:Int} (hr:NoDig r) (h:s.drop i=Lib.itoa lo++([32,116,111,32]++(Lib.itoa hi++r))) (h1 : -10000000000000 < lo∧lo < 10000000000000) (h2 : -10000000000000 < hi∧hi < 10000000000000):
  endsS s (i,false)=((lo,hi),i+(Lib.itoa lo++([32,116,111,32]++Lib.itoa hi)).length,false):=by
 unfold endsS
 rw [numS_of (.inr ⟨32,_,rfl,by decide⟩) h h1.1 h1.2]
 dsimp only
 have h3:=drop_next h
 rw [wantS_of h3]
 rw [numS_of hr (drop_next h3) h2.1 h2.2]
 simp only [List.length_append]
 congr 2
 omega
def NoKey (p:Str):Prop:=p ≠ [116,104,101,114,101]∧p ≠ [99,111,117,110,116]∧p ≠ [101,97,99,104]∧p ≠ [115,111,109,101]
def Small13 (n:Int):Prop := -10000000000000 < n∧n < 10000000000000
inductive Cond.Rd:Cond→Prop where
 |all {ks:List Cond} (h0:ks ≠ []) (h:∀ x ∈ ks,x.Rd):(Cond.mk 1 ks [] [] 0 0).Rd
 |any {ks:List Cond} (h0:ks ≠ []) (h:∀ x ∈ ks,x.Rd):(Cond.mk 2 ks [] [] 0 0).Rd
 |not {x:Cond} (h:x.Rd):(Cond.mk 3 [x] [] [] 0 0).Rd
 |there {p:Str} (hp:RowOk p):(Cond.mk 4 [] p [] 0 0).Rd
 |oneOf {p:Str} {vs:List Str} (hp:RowOk p) (hk:NoKey p) (hv:vs ≠ []):(Cond.mk 5 [] p vs 0 0).Rd
 |count {p:Str} {lo hi:Int} (hp:RowOk p) (h1:Small13 lo) (h2:Small13 hi):(Cond.mk 6 [] p [] lo hi).Rd
 |each {x:Cond} {p:Str} (hp:RowOk p) (h:x.Rd):(Cond.mk 7 [x] p [] 0 0).Rd
 |some {x:Cond} {p:Str} (hp:RowOk p) (h:x.Rd):(Cond.mk 8 [x] p [] 0 0).Rd
 |number {p:Str} {lo hi:Int} (hp:RowOk p) (hk:NoKey p) (h1:Small13 lo) (h2:Small13 hi):(Cond.mk 9 [] p [] lo hi).Rd
theorem EndAt.stop {r:Str} (h:EndAt r):StopAt r:=by
 rcases h with rfl|⟨x,t,rfl,rfl|rfl⟩
 ·exact .inl rfl
 ·exact .inr ⟨_,_,rfl,rfl⟩
 ·exact .inr ⟨_,_,rfl,rfl⟩
theorem EndAt.noDig {r:Str} (h:EndAt r):NoDig r:=by
 rcases h with rfl|⟨x,t,rfl,rfl|rfl⟩
 ·exact .inl rfl
 ·exact .inr ⟨_,_,rfl,by decide⟩
 ·exact .inr ⟨_,_,rfl,by decide⟩
theorem key_no {s p r:Str} {i:Nat} (w:Str) (c:UInt8) (h:s.drop i=p++(32::r)) (hp:RowOk p) (hw:w.all (fun c => !isStop c)=true) (hc:isStop c=true) (hne:c=32→p ≠ w):startsAt s (w ++ [c]) i=false:=by
 cases hs:startsAt s (w ++ [c]) i with
 |false=>rfl
 |true=>
  exfalso
  obtain ⟨u,hu⟩:=starts_iff.1 hs
  rw [h] at hu
  have a1:(p++(32::r)).takeWhile (fun c => !isStop c)=p:=takeWhile_of hp.2 (.inr ⟨32,r,rfl,rfl⟩)
  have a2:(w ++ [c]++u).takeWhile (fun c => !isStop c)=w:=by
   rw [List.append_assoc]
   exact takeWhile_of hw (.inr ⟨c,u,rfl,hc⟩)
  rw [hu,a2] at a1
  subst a1
  rw [List.append_assoc,List.append_cancel_left_eq] at hu
  have:=(List.cons.inj hu).1
  exact hne this.symm rfl
theorem commaJ_nonempty {l:List Cond} (x:Cond) (hx:x ∈ l):(x.text).length≤(commaJ (l.map Cond.text)).length:=commaJ_mem (List.mem_map_of_mem hx)
theorem drop_len {s t r:Str} {i:Nat} (h:s.drop i=t++r):t.length≤s.length:=by
 have:(t++r).length≤s.length:=by rw [← h,List.length_drop];omega
 rw [List.length_append] at this
 omega
theorem sev_read {s:Str} {n:Nat} {ks:List Cond} (h0:ks ≠ []) (ih:∀ x ∈ ks,∀ i r,s.drop i=x.text++r→EndAt r→pcS n s (i,false)=(x,i+x.text.length,false)) {i:Nat} {r:Str} (h:s.drop i=commaJ (ks.map Cond.text)++(41::r)):
  sevS (pcS n s) s (s.length+1) (i,false)=(ks,i+(commaJ (ks.map Cond.text)).length+1,false):=by
 have h1:=commaJ_long (ks.map Cond.text)
 have h2:=drop_len h
 rw [List.length_map] at h1
 exact sevS_of Cond.text ks h0 ih _ i r (by omega) h
theorem pcS_key {n:Nat} {s r p:Str} {i:Nat} (h:s.drop i=p++(32::r)) (hp:RowOk p) (hk:NoKey p):pcS (n+1) s (i,false)=testS s (i,false):=by
 unfold pcS
 have k1:=key_no [97,108,108] 40 h hp rfl rfl (fun e=>absurd e (by decide))
 have k2:=key_no [97,110,121] 40 h hp rfl rfl (fun e=>absurd e (by decide))
 have k3:=key_no [110,111,116] 40 h hp rfl rfl (fun e=>absurd e (by decide))
 have k4:=key_no [116,104,101,114,101] 32 h hp rfl rfl (fun _=>hk.1)
 have k5:=key_no [99,111,117,110,116] 32 h hp rfl rfl (fun _=>hk.2.1)
 have k6:=key_no [101,97,99,104] 32 h hp rfl rfl (fun _=>hk.2.2.1)
 have k7:=key_no [115,111,109,101] 32 h hp rfl rfl (fun _=>hk.2.2.2)
 rw [if_neg (by simp),if_neg (by rw [show wAll = [97,108,108] ++ [40] from rfl,k1];simp),if_neg (by rw [show wAny = [97,110,121] ++ [40] from rfl,k2];simp),if_neg (by rw [show wNot = [110,111,116] ++ [40] from rfl,k3];simp),
  if_neg (by rw [show wThere = [116,104,101,114,101] ++ [32] from rfl,k4];simp),if_neg (by rw [show wCount = [99,111,117,110,116] ++ [32] from rfl,k5];simp),if_neg (by rw [show wEach = [101,97,99,104] ++ [32] from rfl,k6];simp),if_neg (by rw [show wSome = [115,111,109,101] ++ [32] from rfl,k7];simp)]
theorem pcS_of {s:Str} {c:Cond} (hc:c.Rd):∀ (n i:Nat) (r:Str),s.drop i=c.text++r→EndAt r→c.text.length < n→pcS n s (i,false)=(c,i+c.text.length,false):=by
 induction hc with
 |@all ks h0 hk ih=>
  intro n i r h hr hn
  rw [text_mk,if_pos rfl] at h hn ⊢
  cases n with
  |zero=>omega
  |succ n=>
   have h1:s.drop i=wAll++(commaJ (ks.map Cond.text)++(41::r)):=by rw [h];simp [wAll]
   have h2:=sev_read (n:=n) h0 (fun x hx j u hj hu=>ih x hx n j u hj hu (by have:=commaJ_nonempty x hx;simp only [List.length_append,List.length_cons] at hn;omega)) (drop_next h1)
   unfold pcS
   rw [if_neg (by simp),if_pos (starts_of h1)]
   dsimp only
   rw [show i+4=i+wAll.length from rfl,h2]
   simp only [List.length_append,List.length_cons,List.length_nil]
   congr 2
   show i+4+_+1=_
   omega
 |@any ks h0 hk ih=>
  intro n i r h hr hn
  rw [text_mk,if_neg (by decide),if_pos rfl] at h hn ⊢
  cases n with
  |zero=>omega
  |succ n=>
   have h1:s.drop i=wAny++(commaJ (ks.map Cond.text)++(41::r)):=by rw [h];simp [wAny]
   have h2:=sev_read (n:=n) h0 (fun x hx j u hj hu=>ih x hx n j u hj hu (by have:=commaJ_nonempty x hx;simp only [List.length_append,List.length_cons] at hn;omega)) (drop_next h1)
   unfold pcS
   rw [if_neg (by simp),if_neg (by rw [starts_no (k:=1) h1 (by decide) (by simp [wAny,wAll])];simp),if_pos (starts_of h1)]
   dsimp only
   rw [show i+4=i+wAny.length from rfl,h2]
   simp only [List.length_append,List.length_cons,List.length_nil]
   congr 2
   show i+4+_+1=_
   omega
 |@not x hk ih=>
  intro n i r h hr hn
  rw [text_mk,if_neg (by decide),if_neg (by decide),if_pos rfl,List.map_cons,List.map_nil,commaJ_one] at h hn ⊢
  cases n with
  |zero=>omega
  |succ n=>
   have h1:s.drop i=wNot++(x.text++(41::r)):=by rw [h];simp [wNot]
   have h2:=ih n _ _ (drop_next h1) (.inr ⟨41,r,rfl,.inl rfl⟩) (by simp only [List.length_append,List.length_cons] at hn;omega)
   have h3:=oneS_of h2 (drop_next (drop_next h1))
   unfold pcS
   rw [if_neg (by simp),if_neg (by rw [starts_no (k:=0) h1 (by decide) (by simp [wNot,wAll])];simp),if_neg (by rw [starts_no (k:=0) h1 (by decide) (by simp [wNot,wAny])];simp),if_pos (starts_of h1)]
   dsimp only
   rw [show i+4=i+wNot.length from rfl,h3]
   simp only [List.length_append,List.length_cons,List.length_nil]
   congr 2
   show i+4+_+1=_
   omega
 |@there p hp=>
  intro n i r h hr hn
  rw [text_mk,if_neg (by decide),if_neg (by decide),if_neg (by decide),if_pos rfl] at h hn ⊢
  cases n with
  |zero=>omega
  |succ n=>
   have h1:s.drop i=wThere++(p++r):=by rw [h];simp [wThere]
   have h2:=pathS_of (drop_next h1) hp hr.stop
   unfold pcS
   rw [if_neg (by simp),if_neg (by rw [starts_no (k:=0) h1 (by decide) (by simp [wThere,wAll])];simp),if_neg (by rw [starts_no (k:=0) h1 (by decide) (by simp [wThere,wAny])];simp),if_neg (by rw [starts_no (k:=0) h1 (by decide) (by simp [wThere,wNot])];simp),if_pos (starts_of h1)]
   dsimp only
   rw [show i+6=i+wThere.length from rfl,h2]
   simp only [List.length_append,List.length_cons,List.length_nil]
   congr 2
   show i+6+_=_
   omega
 |@oneOf p vs hp hk hv=>
  intro n i r h hr hn
  rw [text_mk,if_neg (by decide),if_neg (by decide),if_neg (by decide),if_neg (by decide),if_neg (by decide),if_neg (by decide),if_neg (by decide),if_neg (by decide)] at h hn ⊢
  cases n with
  |zero=>omega
  |succ n=>
   have h1:s.drop i=p++([32]++(wIn++(commaJ (vs.map quoteS)++(41::r)))):=by rw [h];simp [wIn]
   rw [pcS_key h1 hp hk]
   unfold testS
   rw [pathS_of h1 hp (.inr ⟨32,_,rfl,rfl⟩)]
   dsimp only
   have h2:=drop_next h1
   rw [wantS_of h2,if_pos (isS_of (drop_next h2))]
   have h3:=drop_next (drop_next h2)
   have h4:=sevS_of (one:=quoS s) quoteS vs hv (fun x _ j u hj _=>quoS_of hj) (s.length+1) _ r (by
    have a1:=commaJ_long (vs.map quoteS)
    have a2:=drop_len h3
    rw [List.length_map] at a1
    omega) h3
   dsimp only
   rw [show wIn.length=4 from rfl] at h4
   rw [h4]
   simp only [List.length_append,List.length_cons,List.length_nil]
   congr 2
   show i+p.length+(0+1)+4+_+1=_
   omega
 |@count p lo hi hp hlo hhi=>
  intro n i r h hr hn
  rw [text_mk,if_neg (by decide),if_neg (by decide),if_neg (by decide),if_neg (by decide),if_pos rfl] at h hn ⊢
  cases n with
  |zero=>omega
  |succ n=>
   have h1:s.drop i=wCount++(p++((32::wFrom)++(Lib.itoa lo++([32,116,111,32]++(Lib.itoa hi++r))))):=by rw [h];simp [wCount,wFrom,fromTo]
   have h2:=drop_next h1
   have h3:=drop_next h2
   have h4:=endsS_of hr.noDig (drop_next h3) hlo hhi
   unfold pcS
   rw [if_neg (by simp),if_neg (by rw [starts_no (k:=0) h1 (by decide) (by simp [wCount,wAll])];simp),if_neg (by rw [starts_no (k:=0) h1 (by decide) (by simp [wCount,wAny])];simp),if_neg (by rw [starts_no (k:=0) h1 (by decide) (by simp [wCount,wNot])];simp),if_neg (by rw [starts_no (k:=0) h1 (by decide) (by simp [wCount,wThere])];simp),if_pos (starts_of h1)]
   unfold countS
   rw [show i+6=i+wCount.length from rfl,pathS_of h2 hp (.inr ⟨32,_,rfl,rfl⟩)]
   dsimp only
   rw [wantS_of h3,h4]
   simp only [List.length_append,List.length_cons,List.length_nil,fromTo]
   congr 2
   show i+6+_+(6)+_=_
   omega
 |@each x p hp hk ih=>
  intro n i r h hr hn
  rw [text_mk,if_neg (by decide),if_neg (by decide),if_neg (by decide),if_neg (by decide),if_neg (by decide),if_neg (by decide),if_pos rfl,List.map_cons,List.map_nil,commaJ_one] at h hn ⊢
  cases n with
  |zero=>omega
  |succ n=>
   have h1:s.drop i=wEach++(p++([32,40]++(x.text++(41::r)))):=by rw [h];simp [wEach]
   have h2:=drop_next h1
   have h3:=drop_next h2
   have h4:=ih n _ _ (drop_next h3) (.inr ⟨41,r,rfl,.inl rfl⟩) (by simp only [List.length_append,List.length_cons] at hn;omega)
   have h5:=oneS_of h4 (drop_next (drop_next h3))
   unfold pcS
   rw [if_neg (by simp),if_neg (by rw [starts_no (k:=0) h1 (by decide) (by simp [wEach,wAll])];simp),if_neg (by rw [starts_no (k:=0) h1 (by decide) (by simp [wEach,wAny])];simp),if_neg (by rw [starts_no (k:=0) h1 (by decide) (by simp [wEach,wNot])];simp),if_neg (by rw [starts_no (k:=0) h1 (by decide) (by simp [wEach,wThere])];simp),if_neg (by rw [starts_no (k:=0) h1 (by decide) (by simp [wEach,wCount])];simp),if_pos (starts_of h1)]
   unfold overS
   rw [show i+5=i+wEach.length from rfl,pathS_of h2 hp (.inr ⟨32,_,rfl,rfl⟩)]
   dsimp only
   rw [wantS_of h3,h5]
   simp only [List.length_append,List.length_cons,List.length_nil]
   congr 2
   show i+5+_+(2)+_+1=_
   omega
 |@some x p hp hk ih=>
  intro n i r h hr hn
  rw [text_mk,if_neg (by decide),if_neg (by decide),if_neg (by decide),if_neg (by decide),if_neg (by decide),if_neg (by decide),if_neg (by decide),if_pos rfl,List.map_cons,List.map_nil,commaJ_one] at h hn ⊢
  cases n with
  |zero=>omega
  |succ n=>
   have h1:s.drop i=wSome++(p++([32,40]++(x.text++(41::r)))):=by rw [h];simp [wSome]
   have h2:=drop_next h1
   have h3:=drop_next h2
   have h4:=ih n _ _ (drop_next h3) (.inr ⟨41,r,rfl,.inl rfl⟩) (by simp only [List.length_append,List.length_cons] at hn;omega)
   have h5:=oneS_of h4 (drop_next (drop_next h3))
   unfold pcS
   rw [if_neg (by simp),if_neg (by rw [starts_no (k:=0) h1 (by decide) (by simp [wSome,wAll])];simp),if_neg (by rw [starts_no (k:=0) h1 (by decide) (by simp [wSome,wAny])];simp),if_neg (by rw [starts_no (k:=0) h1 (by decide) (by simp [wSome,wNot])];simp),if_neg (by rw [starts_no (k:=0) h1 (by decide) (by simp [wSome,wThere])];simp),if_neg (by rw [starts_no (k:=0) h1 (by decide) (by simp [wSome,wCount])];simp),if_neg (by rw [starts_no (k:=0) h1 (by decide) (by simp [wSome,wEach])];simp),if_pos (starts_of h1)]
   unfold overS
   rw [show i+5=i+wSome.length from rfl,pathS_of h2 hp (.inr ⟨32,_,rfl,rfl⟩)]
   dsimp only
   rw [wantS_of h3,h5]
   simp only [List.length_append,List.length_cons,List.length_nil]
   congr 2
   show i+5+_+(2)+_+1=_
   omega
 |@number p lo hi hp hk hlo hhi=>
  intro n i r h hr hn
  rw [text_mk,if_neg (by decide),if_neg (by decide),if_neg (by decide),if_neg (by decide),if_neg (by decide),if_pos rfl] at h hn ⊢
  cases n with
  |zero=>omega
  |succ n=>
   have h1:s.drop i=p++([32]++(wFrom++(Lib.itoa lo++([32,116,111,32]++(Lib.itoa hi++r))))):=by rw [h];simp [wFrom,fromTo]
   have h2:=drop_next h1
   have h3:=drop_next h2
   have h4:=endsS_of hr.noDig (drop_next h3) hlo hhi
   rw [pcS_key h1 hp hk]
   unfold testS
   rw [pathS_of h1 hp (.inr ⟨32,_,rfl,rfl⟩)]
   dsimp only
   rw [wantS_of h2,if_neg (by
    unfold isS
    rw [starts_no (k:=0) h3 (by decide) (by simp [wFrom,wIn])]
    simp),if_pos (isS_of h3)]
   dsimp only
   rw [show wFrom.length=5 from rfl] at h4
   rw [h4]
   simp only [List.length_append,List.length_cons,List.length_nil,fromTo]
   congr 2
   show i+_+(0+1)+(5)+_=_
   omega
theorem own_full {k:Int} {nk:Nat} {p:Str} {vs:List Str} {lo hi:Int} (h:ownErr k nk p vs lo hi=0):
  ((k=1∨k=2)∧0 < nk∧p = []∧vs = []∧lo=0∧hi=0)∨(k=3∧nk=1∧p = []∧vs = []∧lo=0∧hi=0)∨(k=4∧nk=0∧pathErr p=0∧vs = []∧lo=0∧hi=0)∨
  (k=5∧nk=0∧pathErr p=0∧valuesErr vs=0∧lo=0∧hi=0)∨((k=6∨k=9)∧nk=0∧pathErr p=0∧vs = []∧endsErr k lo hi=0)∨((k=7∨k=8)∧nk=1∧groupsErr p=0∧p ≠ []∧vs = []∧lo=0∧hi=0):=by
 unfold ownErr at h
 by_cases hr:k < 1∨9 < k
 ·rw [if_pos hr] at h;cases h
 ·rw [if_neg hr] at h
  by_cases hf:formB k nk p vs.length lo hi=true
  ·rw [if_pos hf] at h;cases h
  ·rw [if_neg hf] at h
   have hk:k=1∨k=2∨k=3∨k=4∨k=5∨k=6∨k=7∨k=8∨k=9:=by omega
   have hvs:vs.length=0↔vs = []:=List.length_eq_zero_iff
   rcases hk with rfl|rfl|rfl|rfl|rfl|rfl|rfl|rfl|rfl
   ·simp [formB,usesOfB,overB] at hf
    refine .inl ⟨.inl rfl,by omega,by simp_all,by simp_all,by simp_all,by simp_all⟩
   ·simp [formB,usesOfB,overB] at hf
    refine .inl ⟨.inr rfl,by omega,by simp_all,by simp_all,by simp_all,by simp_all⟩
   ·simp [formB,usesOfB,overB] at hf
    refine .inr (.inl ⟨rfl,by simp_all,by simp_all,by simp_all,by simp_all,by simp_all⟩)
   ·simp [formB,usesOfB,overB] at hf h
    refine .inr (.inr (.inl ⟨rfl,by simp_all,by simp_all,by simp_all,by simp_all,by simp_all⟩))
   ·simp [formB,usesOfB,overB] at hf h
    have h5:pathErr p=0:=by
     by_cases e:pathErr p=0
     ·exact e
     ·simp [e] at h
    simp [h5] at h
    refine .inr (.inr (.inr (.inl ⟨rfl,by simp_all,h5,h,by simp_all,by simp_all⟩)))
   ·simp [formB,usesOfB,overB] at hf h
    have h5:pathErr p=0:=by
     by_cases e:pathErr p=0
     ·exact e
     ·simp [e] at h
    simp [h5] at h
    refine .inr (.inr (.inr (.inr (.inl ⟨.inl rfl,by simp_all,h5,by simp_all,h⟩))))
   ·simp [formB,usesOfB,overB] at hf h
    have h5:groupsErr p=0:=by
     by_cases e:groupsErr p=0
     ·exact e
     ·simp [e] at h
    simp [h5] at h
    refine .inr (.inr (.inr (.inr (.inr ⟨.inl rfl,by simp_all,h5,h,by simp_all,by simp_all,by simp_all⟩))))
   ·simp [formB,usesOfB,overB] at hf h
    have h5:groupsErr p=0:=by
     by_cases e:groupsErr p=0
     ·exact e
     ·simp [e] at h
    simp [h5] at h
    refine .inr (.inr (.inr (.inr (.inr ⟨.inr rfl,by simp_all,h5,h,by simp_all,by simp_all,by simp_all⟩))))
   ·simp [formB,usesOfB,overB] at hf h
    have h5:pathErr p=0:=by
     by_cases e:pathErr p=0
     ·exact e
     ·simp [e] at h
    simp [h5] at h
    refine .inr (.inr (.inr (.inr (.inl ⟨.inr rfl,by simp_all,h5,by simp_all,h⟩))))
inductive Cond.Full:Cond→Prop where
 |mk {k:Int} {ks:List Cond} {p:Str} {vs:List Str} {lo hi:Int} (h:ownErr k ks.length p vs lo hi=0) (hf:ks.length≤200) (hk:∀ x ∈ ks,x.Full):(Cond.mk k ks p vs lo hi).Full
theorem chks_full {d:Int}:∀ (l:List Cond),(∀ c ∈ l,∀ n,0≤n→n≤200→(c.chk d n).2=0→c.Full∧(c.text.length:Int)+2≤100000 * ((c.chk d n).1 - n))→∀ n,0≤n→n≤200→(Cond.chks l d n).2=0→(∀ c ∈ l,c.Full)∧((commaJ (l.map Cond.text)).length:Int)≤100000 * ((Cond.chks l d n).1 - n)∧n+l.length≤(Cond.chks l d n).1∧(Cond.chks l d n).1≤200
 |[],_,n,_,h2,_=>by rw [chks_nil];exact ⟨by simp,by simp [commaJ,Lib.join],by simp,h2⟩
 |c::l,hc,n,hn0,hn1,h=>by
  have hat:=chks_at (l:=c::l) (i:=0) (c:=c) rfl d n
  rw [List.drop_zero] at hat
  rw [hat] at h ⊢
  by_cases he:(c.chk d n).2=0
  ·rw [if_neg (by simp [he])] at h ⊢
   obtain ⟨h1,h2⟩:=hc c (by simp) n hn0 hn1 he
   obtain ⟨g1,g2⟩:=chk_bd c d n hn1
   obtain ⟨h3,h4,g3,g4⟩:=chks_full l (fun y hy=>hc y (by simp [hy])) _ (by omega) (g2 he) h
   refine ⟨fun x hx => ?_,?_,by show n+((l.length+1:Nat):Int)≤(Cond.chks l d (c.chk d n).1).1;omega,g4⟩
   ·rcases List.mem_cons.1 hx with rfl|hx
    ·exact h1
    ·exact h3 x hx
   ·rw [List.map_cons]
    try simp only [List.drop_succ_cons,List.drop_zero] at h4
    try simp only [List.drop_succ_cons,List.drop_zero]
    by_cases h0:l = []
    ·subst h0
     rw [List.map_nil,commaJ_one]
     have h5:((commaJ (([]:List Cond).map Cond.text)).length:Int)=0:=rfl
     omega
    ·rw [commaJ_cons _ _ (by simpa using h0)]
     simp only [List.length_append,List.length_cons,List.length_nil]
     omega
  ·rw [if_pos he] at h
   exact absurd h he
theorem vals_len:∀ (prev:Option Str) (l:List Str),valsErr prev l=0→∀ v ∈ l,v.length≤1000
 |_,[],_=>by simp
 |prev,s::l,h=>by
  unfold valsErr at h
  split at h
  ·cases h
  ·rename_i h1
   split at h
   ·cases h
   ·intro v hv
    rcases List.mem_cons.1 hv with rfl|hv
    ·rw [not_or] at h1
     have:=h1.2
     unfold textB at this
     simp at this
     exact this.1
    ·exact vals_len _ l h v hv
theorem values_len {l:List Str} (h:valuesErr l=0):l ≠ []∧l.length≤20∧∀ v ∈ l,v.length≤1000:=by
 unfold valuesErr at h
 split at h
 ·cases h
 ·rename_i h0
  split at h
  ·cases h
  ·exact ⟨fun e=>h0 (by rw [e];rfl),by omega,vals_len none l h⟩
theorem path_len' {p:Str} (h:pathErr p=0):p.length≤200:=by
 unfold pathErr at h
 split at h
 ·cases h
 ·omega
theorem groups_len' {p:Str} (h:groupsErr p=0):p.length≤200:=by
 unfold groupsErr at h
 split at h
 ·cases h
 ·omega
theorem ends_bd' {k lo hi:Int} (h:endsErr k lo hi=0):Small13 lo∧Small13 hi:=by
 unfold endsErr at h
 unfold Small13
 repeat' split at h
 all_goals first|(cases h;done)|(constructor<;>omega)
theorem vtext_len (vs:List Str) (h1:vs.length≤20) (h2:∀ v ∈ vs,v.length≤1000):(commaJ (vs.map quoteS)).length≤41000:=by
 have key:∀ l:List Str,(∀ v ∈ l,v.length≤1000)→(commaJ (l.map quoteS)).length≤2004 * l.length:=by
  intro l
  induction l with
  |nil=>intro _;simp [commaJ,Lib.join]
  |cons v l ih=>
   intro h
   have hv:=h v (by simp)
   have hq:(quoteS v).length≤2002:=by
    have:=escS_len v
    simp [quoteS]
    omega
   have:=ih fun y hy=>h y (by simp [hy])
   rw [List.map_cons]
   by_cases h0:l = []
   ·subst h0
    rw [List.map_nil,commaJ_one]
    simp
    omega
   ·rw [commaJ_cons _ _ (by simpa using h0)]
    simp only [List.length_append,List.length_cons,List.length_nil]
    omega
 have:=key vs h2
 omega
theorem fromTo_len {lo hi:Int} (h1:Small13 lo) (h2:Small13 hi):(fromTo lo hi).length≤60:=by
 have b1:=Lib.itoa_length_le lo (by have:=h1.1;omega) (by have:=h1.2;omega)
 have b2:=Lib.itoa_length_le hi (by have:=h2.1;omega) (by have:=h2.2;omega)
 simp [fromTo]
 omega
theorem own_text {k:Int} {ks:List Cond} {p:Str} {vs:List Str} {lo hi:Int} (h:ownErr k ks.length p vs lo hi=0):(Cond.mk k ks p vs lo hi).text.length≤50000+(commaJ (ks.map Cond.text)).length:=by
 rw [text_mk]
 rcases own_full h with ⟨hk,_⟩|⟨hk,_⟩|⟨hk,_,hp,_⟩|⟨hk,_,hp,hv,_⟩|⟨hk,_,hp,_,he⟩|⟨hk,_,hg,_⟩
 ·rcases hk with rfl|rfl<;>simp<;>omega
 ·subst hk;simp;omega
 ·subst hk
  have:=path_len' hp
  simp
  omega
 ·subst hk
  have:=path_len' hp
  obtain ⟨_,h1,h2⟩:=values_len hv
  have:=vtext_len vs h1 h2
  simp
  omega
 ·have:=path_len' hp
  obtain ⟨h1,h2⟩:=ends_bd' he
  have:=fromTo_len h1 h2
  rcases hk with rfl|rfl<;>simp<;>omega
 ·have:=groups_len' hg
  rcases hk with rfl|rfl<;>simp<;>omega
theorem chk_full (c:Cond):∀ d n:Int,0≤n→n≤200→(c.chk d n).2=0→c.Full∧(c.text.length:Int)+2≤100000 * ((c.chk d n).1 - n):=by
 induction c using Cond.ind with
 |h k ks p vs lo hi ih=>
  intro d n hn0 hn1 h
  rw [chk_mk] at h ⊢
  split at h
  ·cases h
  ·rename_i h1
   rw [if_neg h1]
   split at h
   ·rename_i he
    exact absurd h he
   ·rename_i he
    rw [if_neg he]
    have he:ownErr k ks.length p vs lo hi=0:=by simpa using he
    obtain ⟨h2,h3,h5,h6⟩:=chks_full ks (fun c hc m h0 h1 hm=>ih c hc (d+1) m h0 h1 hm) (n+1) (by omega) (by omega) h
    have h4:=own_text he
    exact ⟨.mk he (by omega) h2,by omega⟩
theorem err_full {c:Cond} (h:c.err=0):c.Full∧c.text.length≤20000000:=by
 have h1:=chk_full c 0 0 (by omega) (by omega) h
 have h2:=(chk_bd c 0 0 (by omega)).2 h
 exact ⟨h1.1,by have:=h1.2;omega⟩
def pC (s:Str) (q:Pl):List D := [.str s,.int .i64 q.1,.bool q.2]
theorem prefix_take (s t : Str) : t.isPrefixOf s = (decide (t.length ≤ s.length) && decide (s.take t.length = t)) := by
  rw [Bool.eq_iff_iff, List.isPrefixOf_iff_prefix, Bool.and_eq_true, decide_eq_true_eq, decide_eq_true_eq]
  constructor
  · rintro ⟨r, rfl⟩
    exact ⟨by simp, by simp⟩
  · rintro ⟨_, h⟩
    exact ⟨s.drop t.length, by conv => lhs; lhs; rw [← h]
                               exact List.take_append_drop _ _⟩
theorem prefix1_sem (s t:Str):Sem Tryz.prog 86 [.str s,.str t] (.bool (t.isPrefixOf s)):=by
 rw [prefix_take]
 refine si [1000016,1000030] Tryz.func86 ?_
 repeat'((conv=>whnf);first|(try(first|apply eN|apply eC);conv=>whnf);apply sD;(focus(try intro hc;have hc0:=hc;(try simp only[SPLT]at hc);try refine and0 ?_);first|exact sideG)|apply rR|apply rE|apply rH| (apply cD<;>intro hb<;>(try simp only[SPLT]at hb)<;>try exact noB))
 all_goals try exact false
 repeat' ((conv=>whnf);first|exact endR|with_reducible first|apply And.intro|apply oR|apply oN|apply dC)
 all_goals (conv=>whnf)
 exact rle_bool (by rw [Bool.eq_iff_iff];simp)
theorem prefix_sem (s t:Str):Sem Tryz.prog 64 [.str s,.str t] (.bool (t.isPrefixOf s)):=by
 refine si [1000016,1000030] Tryz.func64 ?_
 repeat'((conv=>whnf);first|(try(first|apply eN|apply eC);conv=>whnf);apply sD;(focus first|(refine gx (prefix1_sem ?_ ?_)<;>exact pre)|exact side)|apply rR|apply rE|apply rH| (apply cD<;>intro hb<;>(try simp only[SPLT]at hb)<;>try exact noB))
 all_goals try exact false
 exact finR
theorem prefixAt (s t:Str) (i:Nat):Sem Tryz.prog 64 [.str ((s.take ((s.length:Int)).toNat).drop ((i:Int)).toNat),.str t] (.bool (startsAt s t i)):=by
 have h:=prefix_sem ((s.take ((s.length:Int)).toNat).drop ((i:Int)).toNat) t
 have e:(s.take ((s.length:Int)).toNat).drop ((i:Int)).toNat=s.drop i:=by simp
 have e2:t.isPrefixOf ((s.take ((s.length:Int)).toNat).drop ((i:Int)).toNat)=startsAt s t i:=by rw [e];rfl
 rwa [e2] at h
theorem is_sem (s t:Str) (q:Pl) (hq:q.1≤s.length) (hs:s.length≤100000000) (ht:t.length≤100):
  SemO Tryz.prog 30 (.obj (pC s q)) [.str t] (.bool (isS s t q)) (some (.obj (pC s (if isS s t q=true then (q.1+t.length,false) else q)))):=by
 obtain ⟨i,b⟩:=q
 dsimp only at hq
 have hp:=prefixAt s t i
 unfold isS pC
 dsimp only
 generalize startsAt s t i=y at *
 cases b<;>cases y<;>simp only [Bool.not_false,Bool.not_true,Bool.and_true,Bool.and_false,Bool.false_eq_true,↓reduceIte,Int.natCast_add]
 ·refine sO [0,1000016,1000030] Tryz.func30 ?_
  repeat'((conv=>whnf);first|(try(first|apply eN|apply eI|apply eC);conv=>whnf);apply sD;(focus(try intro hc;have hc0:=hc;(try simp only[SPLT]at hc);try refine and0 ?_);first|exact gx hp|(refine gx (prefix_sem ?_ ?_)<;>exact pre)|(refine gx (prefixAt ?_ ?_ ?_)<;>exact pre)|exact sideG)|(first|apply dG|apply kB);kernel_rfl|apply rR|apply rE|apply rH| (apply cD<;>intro hb<;>(try simp only[SPLT]at hb)<;>try exact noB))
  all_goals try exact false
  exact finR
 ·refine sO [0,1000016,1000030] Tryz.func30 ?_
  repeat'((conv=>whnf);first|(try(first|apply eN|apply eI|apply eC);conv=>whnf);apply sD;(focus(try intro hc;have hc0:=hc;(try simp only[SPLT]at hc);try refine and0 ?_);first|exact gx hp|(refine gx (prefix_sem ?_ ?_)<;>exact pre)|(refine gx (prefixAt ?_ ?_ ?_)<;>exact pre)|exact sideG)|(first|apply dG|apply kB);kernel_rfl|apply rR|apply rE|apply rH| (apply cD<;>intro hb<;>(try simp only[SPLT]at hb)<;>try exact noB))
  all_goals try exact false
  exact finR
 ·refine sO [0,1000016,1000030] Tryz.func30 ?_
  repeat'((conv=>whnf);first|(try(first|apply eN|apply eI|apply eC);conv=>whnf);apply sD;(focus(try intro hc;have hc0:=hc;(try simp only[SPLT]at hc);try refine and0 ?_);first|exact gx hp|(refine gx (prefix_sem ?_ ?_)<;>exact pre)|(refine gx (prefixAt ?_ ?_ ?_)<;>exact pre)|exact sideG)|(first|apply dG|apply kB);kernel_rfl|apply rR|apply rE|apply rH| (apply cD<;>intro hb<;>(try simp only[SPLT]at hb)<;>try exact noB))
  all_goals try exact false
  exact finR
 ·refine sO [0,1000016,1000030] Tryz.func30 ?_
  repeat'((conv=>whnf);first|(try(first|apply eN|apply eI|apply eC);conv=>whnf);apply sD;(focus(try intro hc;have hc0:=hc;(try simp only[SPLT]at hc);try refine and0 ?_);first|exact gx hp|(refine gx (prefix_sem ?_ ?_)<;>exact pre)|(refine gx (prefixAt ?_ ?_ ?_)<;>exact pre)|exact sideG)|(first|apply dG|apply kB);kernel_rfl|apply rR|apply rE|apply rH| (apply cD<;>intro hb<;>(try simp only[SPLT]at hb)<;>try exact noB))
  all_goals try exact false
  exact finR
theorem digit_sem (s:Str) (i:Nat) (b:Bool) (hs:s.length≤100000000):Sem Tryz.prog 88 [.ptr [.str s,.int .i64 i,.bool b]] (.bool (digAt s i)):=by
 cases hx:s[i]? with
 |none=>
  have hm:=List.getElem?_eq_none_iff.1 hx
  have e:digAt s i=false:=by unfold digAt;rw [hx]
  rw [e]
  refine si [1000016,1000030] Tryz.func88 ?_
  repeat'((conv=>whnf);first|(try(first|apply eN|apply eI|apply eC);conv=>whnf);apply sD;(focus(try intro hc;have hc0:=hc;(try simp only[SPLT]at hc);try refine and0 ?_);first|exact sideG)|(first|apply dG|apply kB);kernel_rfl|apply rR|apply rE|apply rH| (apply cD<;>intro hb<;>(try simp only[SPLT]at hb)<;>try exact noB))
  all_goals try exact false
  repeat' ((conv=>whnf);first|exact endR|with_reducible first|apply And.intro|apply oR|apply oN|apply dC)
  all_goals (conv=>whnf)
  exact rle_bool (by simp;omega)
 |some c=>
  have hlt:=(gLt hx)
  have e:digAt s i=digByte c:=by unfold digAt;rw [hx]
  rw [e]
  refine si [1000016,1000030] Tryz.func88 ?_
  repeat'((conv=>whnf);first|(try(first|apply eN|apply eI|apply eC);conv=>whnf);apply sD;(focus(try intro hc;have hc0:=hc;(try simp only[SPLT]at hc);try refine and0 ?_);first|exact sideG)|(first|apply dG|apply kB);kernel_rfl|apply rR|apply rE|apply rH| (apply cD<;>intro hb<;>(try simp only[SPLT]at hb)<;>try exact noB))
  all_goals try exact false
  repeat' ((conv=>whnf);first|exact endR|with_reducible first|apply And.intro|apply oR|apply oN|apply dC)
  all_goals (conv=>whnf)
  have hcd:s.getD ((i:Int).toNat) 0=c:=by rw [Int.toNat_natCast,List.getD_eq_getElem?_getD,hx];rfl
  exact rle_bool (by unfold digByte;rw [hcd,Bool.eq_iff_iff];simp;omega)
theorem wantS_step {s t:Str} {k i:Nat} {c:UInt8} (ht:t[k]?=some c) (hs:s[i]?=some c):wantS s (t.drop (k+1)) (i+1,false)=wantS s (t.drop k) (i,false):=by
 rw [drop_atX ht]
 unfold wantS
 simp only [Bool.false_eq_true,↓reduceIte]
 conv=>rhs;unfold wantI
 rw [if_pos hs]
theorem wantS_stop {s t:Str} {k i:Nat} {c:UInt8} (ht:t[k]?=some c) (hs:s[i]? ≠ some c):wantS s (t.drop k) (i,false)=(i,true):=by
 rw [drop_atX ht]
 unfold wantS
 simp only [Bool.false_eq_true,↓reduceIte]
 unfold wantI
 rw [if_neg hs]
theorem wantS_bad (s t:Str) (i:Nat):wantS s t (i,true)=(i,true):=by unfold wantS;exact if_pos rfl
theorem wantS_nil (s:Str) (q:Pl):wantS s [] q=q:=by
 obtain ⟨i,b⟩:=q
 unfold wantS
 cases b<;>rfl
theorem getD_some {s:Str} {i:Nat} {c:UInt8} (h:s[i]?=some c):s.getD ((i:Int).toNat) 0=c:=by rw [Int.toNat_natCast,List.getD_eq_getElem?_getD,h];rfl
theorem wantI_le {s:Str}:∀ (t:Str) (i:Nat),i≤s.length→i≤(wantI s t i).1∧(wantI s t i).1≤s.length
 |[],i,h=>⟨Nat.le_refl _,h⟩
 |x::t,i,h=>by
  unfold wantI
  split
  ·rename_i hx
   have hlt:i < s.length:=(gLt hx)
   have:=wantI_le t (i+1) hlt
   omega
  ·exact ⟨Nat.le_refl _,h⟩
theorem wantS_le {s t:Str} {q:Pl} (h:q.1≤s.length):q.1≤(wantS s t q).1∧(wantS s t q).1≤s.length:=by
 unfold wantS
 split
 ·exact ⟨Nat.le_refl _,h⟩
 ·exact wantI_le t q.1 h
theorem want_sem (s t:Str) (q:Pl) (hq:q.1≤s.length) (hs:s.length≤100000000) (ht:t.length≤100):
  SemO Tryz.prog 34 (.obj (pC s q)) [.str t] (.tup []) (some (.obj (pC s (wantS s t q)))):=by
 unfold pC
 refine sO [0,6000009,1000016,1000030,1000034] Tryz.func34 ?_
 repeat'((conv=>whnf);first|(try(first|apply eN|apply eI|apply eC);conv=>whnf);apply sD;(focus(try intro hc;have hc0:=hc;(try simp only[SPLT]at hc);try refine and0 ?_);first|exact sideG)|(first|apply dG|apply kB);kernel_rfl|apply rR|apply rE|apply rH| (apply cD<;>intro hb<;>(try simp only[SPLT]at hb)<;>try exact noB))
 all_goals try exact false
 refine loop_go (M:=fun t=>mem t [0,6000009,1000016,1000030,1000034]) hT hM (fun x:Nat × Pl => [(4,.int .i64 x.1),(0,.obj [.str s,.int .i64 x.2.1,.bool x.2.2])]) (fun x=>(x.1≤t.length∧x.2.1≤s.length)∧wantS s (t.drop x.1) x.2=wantS s t q) (fun x=>t.length - x.1) ((0,q)) ?_ ?_ ?_
 ·exact finF
 ·exact ⟨⟨Nat.zero_le _,hq⟩,rfl⟩
 ·rintro ⟨k,i,b⟩ ⟨⟨hk,hi⟩,he⟩
  dsimp only at hk hi he ⊢
  cases hx:t[k]? with
  |none=>
   have hm:=List.getElem?_eq_none_iff.1 hx
   rw [List.drop_of_length_le hm,wantS_nil] at he
   rw [← he]
   dsimp only
   repeat'((conv=>whnf);first|(try(first|apply eN|apply eI|apply eC);conv=>whnf);apply sD;(focus(try intro hc;have hc0:=hc;(try simp only[SPLT]at hc);try refine and0 ?_);first|exact sideG)|(first|apply dG|apply kB);kernel_rfl|apply rR|apply rE|apply rH| (apply cD<;>intro hb<;>(try simp only[SPLT]at hb)<;>try exact noB))
   all_goals try exact false
   exact finR
  |some c=>
   have hlt:=(gLt hx)
   have hcd:=getD_some hx
   cases b with
   |true=>
    rw [wantS_bad] at he
    rw [← he]
    dsimp only
    repeat'((conv=>whnf);first|(try(first|apply eN|apply eI|apply eC);conv=>whnf);apply sD;(focus(try intro hc;have hc0:=hc;(try simp only[SPLT]at hc);try refine and0 ?_);first|exact sideG)|(first|apply dG|apply kB);kernel_rfl|apply rR|apply rE|apply rH| (apply cD<;>intro hb<;>(try simp only[SPLT]at hb)<;>try exact noB))
    all_goals try exact false
    exact finR
   |false=>
    cases hy:s[i]? with
    |none=>
     have hm:=List.getElem?_eq_none_iff.1 hy
     rw [wantS_stop hx (by rw [hy];exact fun h=>by cases h)] at he
     repeat'((conv=>whnf);first|(try(first|apply eN|apply eI|apply eC);conv=>whnf);apply sD;(focus(try intro hc;have hc0:=hc;(try simp only[SPLT]at hc);try refine and0 ?_);first|exact sideG)|(first|apply dG|apply kB);kernel_rfl|apply rR|apply rE|apply rH| ((apply cD)<;>intro hb<;>(try simp only [SPLT] at hb)<;>(try first|exact noB|((exfalso;simp at hb;omega);done))))
     all_goals try exact false
     refine ⟨(k+1,(i,true)),⟨⟨by dsimp only;omega,hi⟩,by rw [← he];exact wantS_bad _ _ _⟩,by dsimp only;omega,?_⟩
     exact finF
    |some d=>
     have hlt2:=(gLt hy)
     have hdd:=getD_some hy
     by_cases hcc:d=c
     ·subst hcc
      rw [← wantS_step hx hy] at he
      repeat'((conv=>whnf);first|(try(first|apply eN|apply eI|apply eC);conv=>whnf);apply sD;(focus(try intro hc;have hc0:=hc;(try simp only[SPLT]at hc);try refine and0 ?_);first|exact sideG)|(first|apply dG|apply kB);kernel_rfl|apply rR|apply rE|apply rH| ((apply cD)<;>intro hb<;>(try simp only [SPLT] at hb)<;>(try first|exact noB|((exfalso;simp at hb;omega);done))))
      all_goals try exact false
      ·refine ⟨(k+1,(i+1,false)),⟨⟨by dsimp only;omega,by dsimp only;omega⟩,he⟩,by dsimp only;omega,?_⟩
       exact finF
      ·exfalso
       rw [hdd,hcd] at hb
       omega
     ·rw [wantS_stop hx (by rw [hy];exact fun h=>hcc (Option.some.inj h))] at he
      repeat'((conv=>whnf);first|(try(first|apply eN|apply eI|apply eC);conv=>whnf);apply sD;(focus(try intro hc;have hc0:=hc;(try simp only[SPLT]at hc);try refine and0 ?_);first|exact sideG)|(first|apply dG|apply kB);kernel_rfl|apply rR|apply rE|apply rH| ((apply cD)<;>intro hb<;>(try simp only [SPLT] at hb)<;>(try first|exact noB|((exfalso;simp at hb;omega);done))))
      all_goals try exact false
      ·exfalso
       rw [hdd,hcd] at hb
       exact hcc (UInt8.toNat_inj.1 (by omega))
      ·refine ⟨(k+1,(i,true)),⟨⟨by dsimp only;omega,hi⟩,by rw [← he];exact wantS_bad _ _ _⟩,by dsimp only;omega,?_⟩
       exact finF
set_option maxHeartbeats 8000000
def stops:Str := [32,40,41,44]
section
variable {P:Program} {Q:Exit→Act→World→Prop} {K:Act→World→Prop} {a:Act} {w:World}
 {dst:Option Tmp} {ty:TypeId} {pos:String} {after:Array Edge} {guard:Option (Nat × Bool)} {ops:Array Oper} {rest:List Oper}
theorem l_runeStr {x:Operand} {t t':Nat} [TStr P t'] {k:IntKind} {n:Int} (ht:(P.underlying t).isSome=true) (hx:a.eval x=.int k n)
  (hr:wpList P ops Q rest (a.put dst (.string (Utf8.encode n))) w):wpList P ops Q (Oper.mk dst (.convert t t' x) ty pos after none::rest) a w:=by
 have hrun:=run_convert_int_string (P:=P) w t t' k n ht (TStr.h (P:=P) (t:=t'))
 refine wpList_plain rfl fun K hK=>wp_run ?_ (hK _ _ hr)
 simp only [execOp,hx,Sem.run_bind,hrun,Sem.run_pure,Result.andThen_ok]
theorem p_sliceLo {t:Nat} [TStr P t] {x lo:Operand} {k:IntKind} {s:List UInt8} {l:Nat} {ss:List Spec} {fs:List (World→Prop)} (hx:a.eval x=.string ⟨s.toArray⟩) (hl:a.eval lo=.int k l) (h1:l≤s.length)
  (hr:ParSteps P ops Q w rest ss (fs ++ [fun _=>True]) (a.put dst (.string ⟨(s.drop l).toArray⟩))):ParSteps P ops Q w (Oper.mk dst (.slice t x (some lo) none none) ty pos after none::rest) (Spec.det (.string ⟨(s.drop l).toArray⟩)::ss) fs a:=by
 refine par_val rfl (fun w1 hw1 K hK => ?_) hr
 refine r_slice_str (l:=l) (h:=s.length) hx ⟨k,hl⟩ rfl h1 (Nat.le_refl _) ?_
 rw [List.take_length]
 exact hK _ (Ext.refl _)
end
def rune2 (r:Nat):Str := [UInt8.ofNat (192+r / 64),UInt8.ofNat (128+r % 64)]
theorem encode2 {r:Nat} (h1:128≤r) (h2:r < 256):Utf8.encode r=⟨(rune2 r).toArray⟩:=by
 unfold rune2
 have hv:Utf8.valid (r:Int)=true:=by
  unfold Utf8.valid
  simp only [Bool.or_eq_true,Bool.and_eq_true,decide_eq_true_eq]
  omega
 unfold Utf8.encode
 simp only [hv,if_true,Int.toNat_natCast,if_neg (show ¬ r < 128 by omega),if_pos (show r < 2048 by omega)]
theorem valid_at (r:Nat) (h2:r < 256) (w:World):Calls Tryz.prog 109 #[.int .i32 r] w fun e w'=>e=.returned (.bool true)∧Ext w w':=by
 go_enter Tryz.func109,Tryz.ntmps109
 repeat' (first|((with_reducible apply wp_seq_k);intro K hK)|(simp only [Exit.then,Exit.inBlock,↓reduceIte,Nat.reduceEqDiff])|(with_reducible first|apply wp_block|apply wp_skip|apply wp_exit)|((with_reducible apply wp_cond_true);exact rfl)|((with_reducible apply wp_cond_false);exact rfl)|(((with_reducible apply wp_cond_split);exact rfl)<;>intro hb<;>(try simp only [SPLT] at hb)<;>(try (have hbl:=And.left hb;have hbr:=And.right hb))<;>(try (have hbll:=And.left hbl;have hblr:=And.right hbl))<;>(try exact spE))|((with_reducible apply (wp_region_lit (id:=0)));((apply l_assign);exact evE;(try simp only [SS,Nat.reduceAdd]));(apply wpList_nil))|((fail_if_success with_reducible first|apply no_region|apply no_list|apply no_par|apply no_loop);go_step))
 (with_reducible apply (wp_region_seq (id:=1)))
 (apply p_move);exact evE;(try simp only [SS,Nat.reduceAdd])
 (apply p_leq);exact rfl;exact rfl;(try simp only [SS,Nat.reduceAdd])
 (apply p_move);exact evE;(try simp only [SS,Nat.reduceAdd])
 (with_reducible apply par_ct);exact rfl;exact rfl;(focus (intro hg1 w1 hx K hK;have hq1:=hg1;(try simp only [decide_eq_true_eq,decide_eq_false_iff_not,Int.not_lt,Int.not_le] at hq1);(try simp only [hg1,GS2] at hK ⊢);((with_reducible apply r_move);exact evE;exact hK _ (Ext.refl _))));(try simp only [SS,Nat.reduceAdd])
 (with_reducible apply par_ct);exact rfl;exact rfl;(focus (intro hg1 w1 hx K hK;have hq1:=hg1;(try simp only [decide_eq_true_eq,decide_eq_false_iff_not,Int.not_lt,Int.not_le] at hq1);(try simp only [hg1,GS2] at hK ⊢);((with_reducible apply r_lss);exact rfl;exact rfl;exact hK _ (Ext.refl _))));(try simp only [SS,Nat.reduceAdd])
 rw [show decide ((r:Int) < 55296)=true from decide_eq_true (by omega)]
 (apply p_and);exact rfl;exact rfl;(try simp only [SS,Nat.reduceAdd])
 (apply p_assign);exact evE;(try simp only [SS,Nat.reduceAdd])
 (apply par_nil);intro v1 hv1 _
 repeat' (first|((with_reducible apply wp_seq_k);intro K hK)|(simp only [Exit.then,Exit.inBlock,↓reduceIte,Nat.reduceEqDiff])|(with_reducible first|apply wp_block|apply wp_skip|apply wp_exit)|((with_reducible apply wp_cond_true);exact rfl)|((with_reducible apply wp_cond_false);exact rfl)|(((with_reducible apply wp_cond_split);exact rfl)<;>intro hb<;>(try simp only [SPLT] at hb)<;>(try (have hbl:=And.left hb;have hbr:=And.right hb))<;>(try (have hbll:=And.left hbl;have hblr:=And.right hbl))<;>(try exact spE))|((with_reducible apply (wp_region_lit (id:=2)));((apply l_assign);exact evE;(try simp only [SS,Nat.reduceAdd]));(apply wpList_nil))|((fail_if_success with_reducible first|apply no_region|apply no_list|apply no_par|apply no_loop);go_step))
 go_ret
 exact ⟨rfl,hv1⟩
theorem noByte {r:Nat} (h1:128≤r) (h2:r < 256):Lib.indexByte [41,44] (UInt8.ofNat (128+r % 64)) = -1:=by
 have hc:128≤(UInt8.ofNat (128+r % 64)).toNat:=by simp;omega
 generalize UInt8.ofNat (128+r % 64)=c at hc
 have e1:((41:UInt8) == c)=false:=by rw [beq_eq_false_iff_ne];rintro rfl;revert hc;decide
 have e2:((44:UInt8) == c)=false:=by rw [beq_eq_false_iff_ne];rintro rfl;revert hc;decide
 simp [Lib.indexByte,e1,e2]
theorem ixB (c:Int) (s:Str) (w:World):Calls Tryz.prog 108 #[.string ⟨s.toArray⟩,.int .u8 c] w fun e w'=>e=.returned (.int .i64 (Lib.indexByte s c.toNat.toUInt8))∧Ext w w':=by
 refine (Tryz.strings_IndexByte ⟨s.toArray⟩ c w).mono fun e w' ⟨h1,h2⟩=>⟨?_,h2 ▸ Ext.refl _⟩
 rw [h1]
theorem indexRune_at (r:Nat) (h1:128≤r) (h2:r < 256) (w:World):Calls Tryz.prog 87 #[.string ⟨stops.toArray⟩,.int .i32 r] w fun e w'=>e=.returned (.int .i64 (-1))∧Ext w w':=by
 go_enter Tryz.func87,Tryz.ntmps87
 repeat' (first|((with_reducible apply wp_seq_k);intro K hK)|(simp only [Exit.then,Exit.inBlock,↓reduceIte,Nat.reduceEqDiff])|(with_reducible first|apply wp_block|apply wp_skip|apply wp_exit)|((with_reducible apply wp_cond_true);exact rfl)|((with_reducible apply wp_cond_false);exact rfl)|(((with_reducible apply wp_cond_split);exact rfl)<;>intro hb<;>(try simp only [SPLT] at hb)<;>(try (have hbl:=And.left hb;have hbr:=And.right hb))<;>(try (have hbll:=And.left hbl;have hblr:=And.right hbl))<;>(try exact spE))|((with_reducible apply (wp_region_lit (id:=0)));((apply l_assign);exact evE;(try simp only [SS,Nat.reduceAdd]));(apply wpList_nil))|((with_reducible apply (wp_region_seq (id:=34)));((apply p_move);exact evE;(try simp only [SS,Nat.reduceAdd]));((apply p_leq);exact rfl;exact rfl;(try simp only [SS,Nat.reduceAdd]));((apply p_move);exact evE;(try simp only [SS,Nat.reduceAdd]));((with_reducible apply par_ct);exact rfl;exact rfl;(focus (intro hg1 w1 hx K hK;have hq1:=hg1;(try simp only [decide_eq_true_eq,decide_eq_false_iff_not,Int.not_lt,Int.not_le] at hq1);(try simp only [hg1,GS2] at hK ⊢);((with_reducible apply r_move);exact evE;exact hK _ (Ext.refl _))));(try simp only [SS,Nat.reduceAdd]));((with_reducible apply par_ct);exact rfl;exact rfl;(focus (intro hg1 w1 hx K hK;have hq1:=hg1;(try simp only [decide_eq_true_eq,decide_eq_false_iff_not,Int.not_lt,Int.not_le] at hq1);(try simp only [hg1,GS2] at hK ⊢);((with_reducible apply r_lss);exact rfl;exact rfl;exact hK _ (Ext.refl _))));(try simp only [SS,Nat.reduceAdd]));((apply p_and);exact rfl;exact rfl;(try simp only [SS,Nat.reduceAdd]));((apply p_assign);exact evE;(try simp only [SS,Nat.reduceAdd]));((apply par_nil);intro v34 hv34 _))|((with_reducible apply (wp_region_lit (id:=36)));((apply l_move);exact evE;(try simp only [SS,Nat.reduceAdd]));((apply l_eql);exact rfl;exact rfl;(try simp only [SS,Nat.reduceAdd]));((apply l_assign);exact evE;(try simp only [SS,Nat.reduceAdd]));(apply wpList_nil))|((with_reducible apply (wp_region_lit (id:=43)));((apply l_move);exact evE;(try simp only [SS,Nat.reduceAdd]));((apply l_enter);exact evE;first|((with_reducible refine (valid_at _ ?_ _).mono ?_);(focus (first|assumption|exact rfl|omega|((apply SlR.ext);(focus assumption);(focus (repeat (first|exact xr _|assumption|(apply xt;assumption))));done)|((apply Own.ext);(focus assumption);(focus (repeat (first|exact xr _|assumption|(apply xt;assumption))));done)|(simp;done)));rintro e w185 ⟨rfl,hx185⟩;(try simp only []);(try simp only [SS,Nat.reduceAdd])));((apply l_not);exact rfl;(try simp only [SS,Nat.reduceAdd]));((apply l_assign);exact evE;(try simp only [SS,Nat.reduceAdd]));(apply wpList_nil))|((fail_if_success with_reducible first|apply no_region|apply no_list|apply no_par|apply no_loop);go_step))
 apply wp_scope_straight
 repeat' (first|((with_reducible apply wp_seq_k);intro K hK)|(simp only [Exit.then,Exit.inBlock,↓reduceIte,Nat.reduceEqDiff])|(with_reducible first|apply wp_block|apply wp_skip|apply wp_exit)|((with_reducible apply wp_cond_true);exact rfl)|((with_reducible apply wp_cond_false);exact rfl)|(((with_reducible apply wp_cond_split);exact rfl)<;>intro hb<;>(try simp only [SPLT] at hb)<;>(try (have hbl:=And.left hb;have hbr:=And.right hb))<;>(try (have hbll:=And.left hbl;have hblr:=And.right hbl))<;>(try exact spE))|((fail_if_success with_reducible first|apply no_region|apply no_list|apply no_par|apply no_loop);go_step))
 with_reducible apply (wp_region_lit (id:=1))
 (apply l_move);exact evE;(try simp only [SS,Nat.reduceAdd])
 (apply l_runeStr);exact rfl;exact rfl;rw [encode2 h1 h2];(try simp only [SS,Nat.reduceAdd])
 (apply l_assign);exact evE;(try simp only [SS,Nat.reduceAdd])
 apply wpList_nil
 repeat' (first|((with_reducible apply wp_seq_k);intro K hK)|(simp only [Exit.then,Exit.inBlock,↓reduceIte,Nat.reduceEqDiff])|(with_reducible first|apply wp_block|apply wp_skip|apply wp_exit)|((with_reducible apply wp_cond_true);exact rfl)|((with_reducible apply wp_cond_false);exact rfl)|(((with_reducible apply wp_cond_split);exact rfl)<;>intro hb<;>(try simp only [SPLT] at hb)<;>(try (have hbl:=And.left hb;have hbr:=And.right hb))<;>(try (have hbll:=And.left hbl;have hblr:=And.right hbl))<;>(try exact spE))|((with_reducible apply (wp_region_lit (id:=2)));((apply l_move);exact evE;(try simp only [SS,Nat.reduceAdd]));((apply l_len_str);exact rfl;(try simp only [SS,Nat.reduceAdd]));((apply l_sub);exact rfl;exact rfl;(focus (first|(apply IntWalk.i64_in;omega)|exact IntWalk.i64_left _));(try simp only [SS,Nat.reduceAdd]));((apply l_assign);exact evE;(try simp only [SS,Nat.reduceAdd]));(apply wpList_nil))|((with_reducible apply (wp_region_lit (id:=3)));((apply l_move);exact evE;(try simp only [SS,Nat.reduceAdd]));((apply l_assign);exact evE;(try simp only [SS,Nat.reduceAdd]));(apply wpList_nil))|((with_reducible apply (wp_region_lit (id:=4)));((apply l_assign);exact evE;(try simp only [SS,Nat.reduceAdd]));(apply wpList_nil))|((fail_if_success with_reducible first|apply no_region|apply no_list|apply no_par|apply no_loop);go_step))
 have hl:wrap64 (((rune2 r).length:Int) - 1)=1:=by
  rw [show (rune2 r).length=2 from rfl]
  exact IntWalk.wrap64_in _ (by omega)
 simp only [hl]
 have hs4:stops.length=4:=rfl
 have hr2:(rune2 r).length=2:=rfl
 go_loopw [9] (fun v9 wr=>Ext w wr∧v9=.int .i64 1) (fun _ _=>0)
 case atStart=>exact ⟨by first|assumption|(exact hv34.trans (by assumption)),rfl⟩
 case round=>
  obtain ⟨hx,rfl⟩:=hrel
  repeat' (first|((with_reducible apply wp_seq_k);intro K hK)|(simp only [Exit.then,Exit.inBlock,↓reduceIte,Nat.reduceEqDiff])|(with_reducible first|apply wp_block|apply wp_skip|apply wp_exit)|((with_reducible apply wp_cond_true);exact rfl)|((with_reducible apply wp_cond_false);exact rfl)|(((with_reducible apply wp_cond_split);exact rfl)<;>intro hb<;>(try simp only [SPLT] at hb)<;>(try (have hbl:=And.left hb;have hbr:=And.right hb))<;>(try (have hbll:=And.left hbl;have hblr:=And.right hbl))<;>(try exact spE))|((with_reducible apply (wp_region_lit (id:=5)));((apply l_move);exact evE;(try simp only [SS,Nat.reduceAdd]));((apply l_move);exact evE;(try simp only [SS,Nat.reduceAdd]));((apply l_len_str);exact rfl;(try simp only [SS,Nat.reduceAdd]));((apply l_lss);exact rfl;exact rfl;(try simp only [SS,Nat.reduceAdd]));(apply wpList_nil))|((fail_if_success with_reducible first|apply no_region|apply no_list|apply no_par|apply no_loop);go_step))
  apply wp_scope_straight
  repeat' (first|((with_reducible apply wp_seq_k);intro K hK)|(simp only [Exit.then,Exit.inBlock,↓reduceIte,Nat.reduceEqDiff])|(with_reducible first|apply wp_block|apply wp_skip|apply wp_exit)|((with_reducible apply wp_cond_true);exact rfl)|((with_reducible apply wp_cond_false);exact rfl)|(((with_reducible apply wp_cond_split);exact rfl)<;>intro hb<;>(try simp only [SPLT] at hb)<;>(try (have hbl:=And.left hb;have hbr:=And.right hb))<;>(try (have hbll:=And.left hbl;have hblr:=And.right hbl))<;>(try exact spE))|((fail_if_success with_reducible first|apply no_region|apply no_list|apply no_par|apply no_loop);go_step))
  (((with_reducible apply (wp_region_par (id:=6)));kernel_rfl;kernel_rfl;exact rfl))
  (apply p_move);exact evE;(try simp only [SS,Nat.reduceAdd])
  (apply p_move);exact evE;(try simp only [SS,Nat.reduceAdd])
  ((with_reducible apply (p_index_str (s:=stops)));exact rfl;exact rfl;(focus (first|assumption|omega));(focus (first|assumption|omega));(try simp only [SS,Nat.reduceAdd]))
  (apply p_move);exact evE;(try simp only [SS,Nat.reduceAdd])
  (apply p_move);exact evE;(try simp only [SS,Nat.reduceAdd])
  ((with_reducible apply (p_index_str (s:=rune2 r)));exact rfl;exact rfl;(focus (first|assumption|omega));(focus (first|assumption|omega));(try simp only [SS,Nat.reduceAdd]))
  ((apply p_neq);exact rfl;exact rfl;(try simp only [SS,Nat.reduceAdd]))
  ((apply par_nil);intro v6 hv6 _)
  repeat' (first|((with_reducible apply wp_seq_k);intro K hK)|(simp only [Exit.then,Exit.inBlock,↓reduceIte,Nat.reduceEqDiff])|(with_reducible first|apply wp_block|apply wp_skip|apply wp_exit)|((with_reducible apply wp_cond_true);exact rfl)|((with_reducible apply wp_cond_false);exact rfl)|(((with_reducible apply wp_cond_split);exact rfl)<;>intro hb<;>(try simp only [SPLT] at hb)<;>(try (have hbl:=And.left hb;have hbr:=And.right hb))<;>(try (have hbll:=And.left hbl;have hblr:=And.right hbl))<;>(try exact spE))|((fail_if_success with_reducible first|apply no_region|apply no_list|apply no_par|apply no_loop);go_step))
  ·(((with_reducible apply (wp_region_par (id:=7)));kernel_rfl;kernel_rfl;exact rfl))
   (apply p_move);exact evE;(try simp only [SS,Nat.reduceAdd])
   (apply p_move);exact evE;(try simp only [SS,Nat.reduceAdd])
   ((apply p_add);exact rfl;exact rfl;(focus (first|(apply IntWalk.i64_in;omega)|exact IntWalk.i64_left _));(try simp only [SS,Nat.reduceAdd]))
   ((with_reducible apply (p_sliceLo (s:=stops) (l:=2)));exact rfl;exact rfl;(focus decide);(try simp only [SS,Nat.reduceAdd]))
   (apply p_move);exact evE;(try simp only [SS,Nat.reduceAdd])
   (apply p_move);exact evE;(try simp only [SS,Nat.reduceAdd])
   ((with_reducible apply (p_index_str (s:=rune2 r)));exact rfl;exact rfl;(focus (first|assumption|omega));(focus (first|assumption|omega));(try simp only [SS,Nat.reduceAdd]))
   ((apply p_enter);exact evE;((focus (intro w1 hw1;(with_reducible refine (ixB _ _ _).mono ?_); rintro e w41 ⟨rfl,hx41⟩;exact ⟨rfl,hx41⟩));(try simp only [SS,Nat.reduceAdd])))
   (apply p_assign);exact evE;(try simp only [SS,Nat.reduceAdd])
   ((apply par_nil);intro v7 hv7 _)
   have hix:Lib.indexByte (stops.drop 2) ((List.getD (rune2 r) (Int.toNat 1) 0).toNat.toUInt8) = -1:=by
    rw [show ((List.getD (rune2 r) (Int.toNat 1) 0).toNat).toUInt8=UInt8.ofNat (128+r % 64) from UInt8.toNat_inj.1 (by show ((UInt8.ofNat (128+r % 64)).toNat.toUInt8).toNat=_;simp)]
    exact noByte h1 h2
   repeat' (first|((with_reducible apply wp_seq_k);intro K hK)|(simp only [Exit.then,Exit.inBlock,↓reduceIte,Nat.reduceEqDiff])|(with_reducible first|apply wp_block|apply wp_skip|apply wp_exit)|((with_reducible apply wp_cond_true);exact rfl)|((with_reducible apply wp_cond_false);exact rfl)|(((with_reducible apply wp_cond_split);exact rfl)<;>intro hb<;>(try simp only [SPLT] at hb)<;>(try (have hbl:=And.left hb;have hbr:=And.right hb))<;>(try (have hbll:=And.left hbl;have hblr:=And.right hbl))<;>(try exact spE))|((with_reducible apply (wp_region_lit (id:=8)));((apply l_move);exact evE;(try simp only [SS,Nat.reduceAdd]));((apply l_lss);exact rfl;exact rfl;(try simp only [SS,Nat.reduceAdd]));(apply wpList_nil))|((with_reducible apply (wp_region_lit (id:=9)));((apply l_assign);exact evE;(try simp only [SS,Nat.reduceAdd]));(apply wpList_nil))|((fail_if_success with_reducible first|apply no_region|apply no_list|apply no_par|apply no_loop);go_step))
   ·simp only [Exit.noGoto_ret]
    simp (config:={ zetaDelta:=true }) only [Exit.inBlock,Exit.then,Exit.noGoto_ret]
    go_ret
    exact ⟨rfl,hx.trans (by first|assumption|exact hv6.trans hv7)⟩
  ·exfalso
   have hc:(List.getD (rune2 r) (Int.toNat 1) 0).toNat=(128+r % 64) % 256:=by
    show (UInt8.ofNat (128+r % 64)).toNat=_
    simp
   have hd:(List.getD stops (Int.toNat 1) 0).toNat=40:=rfl
   omega
theorem stop_ix (c:UInt8):decide (0≤Lib.indexByte stops c)=isStop c:=by
 unfold isStop stops
 rw [Bool.eq_iff_iff]
 simp only [decide_eq_true_eq,Bool.or_eq_true,beq_iff_eq]
 by_cases h1:c=32
 ·subst h1;decide
 by_cases h2:c=40
 ·subst h2;decide
 by_cases h3:c=41
 ·subst h3;decide
 by_cases h4:c=44
 ·subst h4;decide
 have e1:((32:UInt8) == c)=false:=by rw [beq_eq_false_iff_ne];exact fun h=>h1 h.symm
 have e2:((40:UInt8) == c)=false:=by rw [beq_eq_false_iff_ne];exact fun h=>h2 h.symm
 have e3:((41:UInt8) == c)=false:=by rw [beq_eq_false_iff_ne];exact fun h=>h3 h.symm
 have e4:((44:UInt8) == c)=false:=by rw [beq_eq_false_iff_ne];exact fun h=>h4 h.symm
 simp [Lib.indexByte,e1,e2,e3,e4,h1,h2,h3,h4]
theorem indexRune_sem (c:UInt8) (h1:128≤c.toNat):Sem Tryz.prog 87 [.str stops,.int .i32 c.toNat] (.int .i64 (-1)):=
 sem_valsK (us := [.string ⟨stops.toArray⟩,.int .i32 c.toNat]) (v:=.int .i64 (-1)) rfl rfl (fun _ _=>.int _ _) fun w=>indexRune_at c.toNat h1 (UInt8.toNat_lt c) w
theorem containsRune_sem (c:UInt8):Sem Tryz.prog 67 [.str stops,.int .i32 c.toNat] (.bool (isStop c)):=by
 by_cases h:c.toNat < 128
 ·refine sem_valsK (us := [.string ⟨stops.toArray⟩,.int .i32 c.toNat]) (v:=.bool (isStop c)) rfl rfl (fun _ _=>.bool _) fun w => ?_
  refine (Tryz.strings_ContainsRune_ascii ⟨stops.toArray⟩ c.toNat w (by omega) (by omega)).mono fun e w' ⟨h1,h2⟩=>⟨?_,h2 ▸ Ext.refl _⟩
  rw [h1,← stop_ix]
  simp
 ·have hr:=indexRune_sem c (by omega)
  have hf:isStop c=false:=by
   unfold isStop
   simp only [Bool.or_eq_false_iff,beq_eq_false_iff_ne]
   refine ⟨⟨⟨?_,?_⟩,?_⟩,?_⟩<;>(rintro rfl;exact h (by decide))
  rw [hf]
  refine si [1000016,1000020,1000030,1000034,1000038,1000041] Tryz.func67 ?_
  repeat'((conv=>whnf);first|(try(first|apply eN|apply eC);conv=>whnf);apply sD;(focus first|exact gx hr|(refine gx (indexRune_sem ?_ ?_)<;>exact pre)|exact side)|apply rR|apply rE|apply rH| (apply cD<;>intro hb<;>(try simp only[SPLT]at hb)<;>try exact noB))
  all_goals try exact false
  exact finR
set_option maxHeartbeats 1000000
def strJ (s:Str):List D := [.str s]
theorem join_sem (l:List Str) (hl:l.length≤100000) (hb:(commaJ l).length≤140737488355328):Sem Tryz.prog 24 [.sl 0 1 (l.map strJ),.str [44,32]] (.str (commaJ l)):=by
 refine ⟨inferInstance,rfl,fun S w vs hw hvl hr => ?_⟩
 obtain ⟨v,u,rfl⟩:∃ a b,vs = [a,b]:=by
  match vs,hvl with
  |[a,b],_=>exact ⟨a,b,rfl⟩
 have f0:=(hr 0 _ v rfl rfl).passes rfl
 obtain rfl:u=.string ⟨[44,32].toArray⟩:=(hr 1 _ u rfl rfl).str_inv
 have hxs:(l.map fun s=>(⟨s.toArray⟩:ByteArray)).map (·.data.toList)=l:=by
  rw [List.map_map]
  exact (List.map_congr_left fun _ _=>rfl).trans (List.map_id l)
 suffices h:Calls Tryz.prog 24 #[v,.string ⟨[44,32].toArray⟩] w fun e w'=>e=.returned (.string ⟨(commaJ l).toArray⟩)∧Below w.heap.size w w' from h.mono fun e w' ⟨he,hbl⟩=>by
  have hpt:=PT.ext' hw hbl
  exact ⟨_,S,he,hpt.wf,hpt.trans,.fz (.str _)⟩
 generalize hrows:l.map strJ=rows at f0
 cases f0 with
 |slNil=>
  obtain rfl:l = []:=by simpa using hrows
  exact (Tryz.strings_Join_none none 0 ⟨#[44,32]⟩ w).mono fun e w' ⟨he,hw'⟩=>⟨he,hw' ▸ Below.refl _ _⟩
 |slE A=>
  obtain rfl:l = []:=by simpa using hrows
  exact (Tryz.strings_Join_none (some A) 0 ⟨#[44,32]⟩ w).mono fun e w' ⟨he,hw'⟩=>⟨he,hw' ▸ Below.refl _ _⟩
 |@sl b o cap _ _ cv hc hm hrl hh ih=>
  subst hrows
  have hlen:(l.map strJ).length=(l.map fun s=>(⟨s.toArray⟩:ByteArray)).length:=by simp
  rw [hlen]
  by_cases h0:l = []
  ·subst h0
   exact (Tryz.strings_Join_none _ cap ⟨#[44,32]⟩ w).mono fun e w' ⟨he,hw'⟩=>⟨he,hw' ▸ Below.refl _ _⟩
  ·have hcell:∀ (j:Nat) (x:ByteArray),(l.map fun s=>(⟨s.toArray⟩:ByteArray))[j]?=some x→w.cell? ⟨b,o+j,none⟩=some (.string x):=fun j x hx=>by
    rw [List.getElem?_map] at hx
    cases hj:l[j]? with
    |none=>rw [hj] at hx;cases hx
    |some s=>
     rw [hj] at hx
     cases hx
     have hrow:(l.map strJ)[j]?=some [.str s]:=by rw [List.getElem?_map,hj];rfl
     obtain ⟨h1,_,_⟩:=hh j _ 0 _ hrow rfl
     have h2:=ih j _ 0 _ hrow rfl
     rw [Nat.mul_one,Nat.add_zero] at h1
     rw [h1]
     generalize cv j 0=y at h2
     cases h2
     rfl
   have hbk:b < w.heap.size:=by
    obtain ⟨s,hs⟩:∃ s,l[0]?=some s:=by cases l with|nil=>exact absurd rfl h0|cons s l=>exact ⟨s,rfl⟩
    exact cell_lt (hcell 0 _ (by rw [List.getElem?_map,hs];rfl))
   have:=Tryz.strings_Join b o cap (l.map fun s=>(⟨s.toArray⟩:ByteArray)) ⟨#[44,32]⟩ w hcell hbk (by simp;omega) (by rw [← hlen];exact hc) (by rw [hxs];exact hb)
   rw [hxs] at this
   exact this
end Go.Proofs.YtindehjiaknokaaGreatDoor
