/- Conditions are right: the reference's check of all parts (walks). Atoms, Can, follows: the reference's (walks), and what tables say (plain). Rules: what is wrong with them, and which are needless (plain). Rules without error: the program's and the reference's (walks). Needless: the program's (walk). Implies: the reference's (walk). Needless: the reference's; RuleNeedlessMatchesSpec (walks). -/
import Derived.Test.YtnlbekongmkmjaaGreatDoorZ25
import Derived.Test.YtnlbekongmkmjaaGreatDoorZ23
namespace Go.Proofs.YtnlbekongmkmjaaGreatDoor
set_option linter.unusedSimpArgs false
set_option linter.unusedVariables false
open Go.RowKit
set_option maxRecDepth 100000
set_option maxHeartbeats 4000000
theorem check_sem (c:Cond):c.Txt→∀ d n:Int,0≤n→n≤200→0≤d→d≤1000→Sem Tryz.prog 60 [.agg c.row,.int .i64 d,.int .i64 n] (.tup [.int .i64 (c.chk d n).1,.int .i64 (c.chk d n).2]):=by
 induction c using Cond.ind with
 | h k ks p vs lo hi ih=>
  intro ht d n hn0 hn hd0 hd
  obtain ⟨_,hvs,hks⟩:=ht
  have h1:=checkNode_sem k (ks.map Cond.row) p vs lo hi hvs
  rw [List.length_map] at h1
  rw [chk_mk,Cond.row_mk]
  generalize ownErr k ks.length p vs lo hi=e at h1 ⊢
  generalize hr:(if 200 < n+1∨6 < d then (n+1,(2:Int)) else if e ≠ 0 then (n+1,e) else Cond.chks ks (d+1) (n+1))=r
  refine sem_intro (M:=fun t=>mem t [1000044]) hT hM Tryz.func60 inferInstance rfl rfl rfl rfl rfl rfl ?_
  repeat' (
   (conv=>whnf)
   first
    | ((try ((with_reducible first|apply NumE.go|apply IdxE.go|apply TextE.go|apply LookE.go|apply CallE.go);(conv=>whnf)));(with_reducible apply SideD.mk);(focus ((first|(intro hc;have hc0:=hc;(try simp only [SPLT] at hc);(try refine And.intro (by first|exact hc0|exact ⟨hc0,hc0⟩|exact ⟨hc0,hc0,hc0⟩) ?_))|skip);first|((try apply givesl);(focus (first|((apply gives_go (h1));(focus (exact DLes.au));(focus exact rfl);(all_goals (exact pre)))|((apply gives_go (checkNode_sem _ _ _ _ _ _ _));(focus (exact DLes.au));(focus exact rfl);(all_goals (exact pre)))));(all_goals exact rfl))|exact sideG)))
    | ((with_reducible first|apply DrawR.go0|apply KerB.mk);(focus kernel_rfl))
    | (with_reducible first|apply ends_ret|apply ends_norm|apply Halt'.mk)
    | ((with_reducible apply CondD.mk)<;>intro hb<;>(try simp only [SPLT] at hb)<;>(try first|exact noB)))
  all_goals (try exact (false:Bool))
  ·rw [if_pos (by omega)] at hr
   subst hr
   repeat' ((conv=>whnf);first|exact endR|(with_reducible first|apply And.intro|apply endsO_ret|apply endsO_norm|apply DLes.cons))
   all_goals (conv=>whnf)
  ·rw [if_neg (by omega),if_pos (by omega)] at hr
   subst hr
   repeat' ((conv=>whnf);first|exact endR|(with_reducible first|apply And.intro|apply endsO_ret|apply endsO_norm|apply DLes.cons))
   all_goals (conv=>whnf)
  ·have hll:(ks.map Cond.row).length=ks.length:=List.length_map _
   rw [if_neg (by omega),if_neg (by omega)] at hr
   refine loop_go (M:=fun t=>mem t [0,1000044]) hT hM (fun x:Nat × Int => [(9,.int .i64 x.1),(2,.int .i64 x.2)]) (fun x=>x.1≤ks.length∧n+1+x.1≤x.2∧x.2≤200∧Cond.chks (ks.drop x.1) (d+1) x.2=r) (fun x=>ks.length - x.1) ((0,n+1)) ?_ ?_ ?_
   ·(conv=>whnf)
    refine ⟨?_,by rfl⟩
    repeat' ((conv=>whnf);first|exact endF|exact endF2|with_reducible apply DLes.cons)
   ·exact ⟨Nat.zero_le _,by dsimp only;omega,by dsimp only;omega,hr⟩
   ·rintro ⟨i,m⟩ ⟨hi,hm1,hm2,hv⟩
    dsimp only at hi hm1 hm2 hv ⊢
    cases hx:ks[i]? with
    | none=>
     have hm:=List.getElem?_eq_none_iff.1 hx
     rw [List.drop_of_length_le hm,chks_nil] at hv
     subst hv
     repeat' (
      (conv=>whnf)
      first
       | ((try ((with_reducible first|apply NumE.go|apply IdxE.go|apply TextE.go|apply LookE.go|apply CallE.go);(conv=>whnf)));(with_reducible apply SideD.mk);(focus ((first|(intro hc;have hc0:=hc;(try simp only [SPLT] at hc);(try refine And.intro (by first|exact hc0|exact ⟨hc0,hc0⟩|exact ⟨hc0,hc0,hc0⟩) ?_))|skip);first|((try apply givesl);(focus (((apply gives_go (checkNode_sem _ _ _ _ _ _ _));(focus (exact DLes.au));(focus exact rfl);(all_goals (exact pre)))));(all_goals exact rfl))|exact sideG)))
       | ((with_reducible first|apply DrawR.go0|apply KerB.mk);(focus kernel_rfl))
       | (with_reducible first|apply ends_ret|apply ends_norm|apply Halt'.mk)
       | ((with_reducible apply CondD.mk)<;>intro hb<;>(try simp only [SPLT] at hb)<;>(try first|exact noB)))
     all_goals (try exact (false:Bool))
     repeat' ((conv=>whnf);first|exact endR|(with_reducible first|apply And.intro|apply endsO_ret|apply endsO_norm|apply DLes.cons))
     all_goals (conv=>whnf)
    | some x=>
     have hlt:=(List.getElem?_eq_some_iff.1 hx).1
     obtain ⟨hb1,hb2⟩:=chk_bd x (d+1) m hm2
     have ih':=ih x (List.mem_of_getElem? hx) (hks x (List.mem_of_getElem? hx)) (d+1) m (by omega) hm2 (by omega) (by omega)
     rw [chks_at hx] at hv
     generalize x.chk (d+1) m=y at hv ih' hb1 hb2
     obtain ⟨m2,e2⟩:=y
     obtain ⟨k1,ks1,p1,vs1,lo1,hi1⟩:=x
     rw [Cond.row_mk] at ih'
     dsimp only at hv ih' hb1 hb2
     repeat' (
      (conv=>whnf)
      first
       | ((try ((with_reducible first|apply NumE.go|apply IdxE.go|apply TextE.go|apply LookE.go|apply CallE.go);(conv=>whnf)));(with_reducible apply SideD.mk);(focus ((first|(intro hc;have hc0:=hc;(try simp only [SPLT] at hc);(try refine And.intro (by first|exact hc0|exact ⟨hc0,hc0⟩|exact ⟨hc0,hc0,hc0⟩) ?_))|skip);first|(exact idx_row hx rfl)|((try apply givesl);(focus (first|((apply gives_go (ih'));(focus (exact DLes.au));(focus exact rfl);(all_goals (exact pre)))|((apply gives_go (checkNode_sem _ _ _ _ _ _ _));(focus (exact DLes.au));(focus exact rfl);(all_goals (exact pre)))));(all_goals exact rfl))|exact sideG)))
       | ((with_reducible first|apply DrawR.go0|apply KerB.mk);(focus kernel_rfl))
       | (with_reducible first|apply ends_ret|apply ends_norm|apply Halt'.mk)
       | ((with_reducible apply CondD.mk)<;>intro hb<;>(try simp only [SPLT] at hb)<;>(try first|exact noB)))
     all_goals (try exact (false:Bool))
     ·rw [if_pos (by omega)] at hv
      subst hv
      repeat' ((conv=>whnf);first|exact endR|(with_reducible first|apply And.intro|apply endsO_ret|apply endsO_norm|apply DLes.cons))
      all_goals (conv=>whnf)
     ·rw [if_neg (by omega)] at hv
      refine ⟨(i+1,m2),⟨by dsimp only;omega,by dsimp only;omega,by dsimp only;omega,hv⟩,by dsimp only;omega,?_⟩
      (conv=>whnf)
      refine ⟨?_,by rfl⟩
      repeat' ((conv=>whnf);first|exact endF|exact endF2|with_reducible apply DLes.cons)
theorem checkCond4_sem (c:Cond) (ht:c.Txt):Sem Tryz.prog 28 [.agg c.row] (.int .i64 c.err):=by
 have h:=check_sem c ht 0 0 (by omega) (by omega) (by omega) (by omega)
 unfold Cond.err
 generalize c.chk 0 0=y at h ⊢
 obtain ⟨m,e⟩:=y
 obtain ⟨k,ks,p,vs,lo,hi⟩:=c
 rw [Cond.row_mk] at h ⊢
 dsimp only at h ⊢
 refine sem_intro (M:=fun t=>mem t [1000044]) hT hM Tryz.func28 inferInstance rfl rfl rfl rfl rfl rfl ?_
 repeat' (
  (conv=>whnf)
  first
   | ((try ((with_reducible first|apply NumE.go|apply IdxE.go|apply TextE.go|apply LookE.go|apply CallE.go);(conv=>whnf)));(with_reducible apply SideD.mk);(focus (first|((try apply givesl);(focus (((apply gives_go (h));(focus (exact DLes.au));(focus exact rfl);(all_goals (exact pre)))));(all_goals exact rfl))|exact side)))
   | ((with_reducible first|apply DrawR.go0|apply KerB.mk);(focus kernel_rfl))
   | (with_reducible first|apply ends_ret|apply ends_norm|apply Halt'.mk)
   | ((with_reducible apply CondD.mk)<;>intro hb<;>(try simp only [SPLT] at hb)<;>(try first|exact noB)))
 all_goals (try exact (false:Bool))
 repeat' ((conv=>whnf);first|exact endR|(with_reducible first|apply And.intro|apply endsO_ret|apply endsO_norm|apply DLes.cons))
 all_goals (conv=>whnf)
end Go.Proofs.YtnlbekongmkmjaaGreatDoor
namespace Go.Proofs.YtnlbekongmkmjaaGreatDoor
set_option linter.unusedSimpArgs false
set_option linter.unusedVariables false
open Go.RowKit
set_option maxRecDepth 100000
set_option maxHeartbeats 4000000
theorem all_congr {α:Type} {p q:α→Bool}:∀ l:List α,(∀ x ∈ l,p x=q x)→l.all p=l.all q
 | [],_=>rfl
 | a::l,h=>by rw [List.all_cons,List.all_cons,h a (by simp),all_congr l fun x hx=>h x (by simp [hx])]
theorem any_notq {α:Type} {p q:α→Bool}:∀ l:List α,(∀ x ∈ l,p x = !q x)→l.any p = !l.all q
 | [],_=>rfl
 | a::l,h=>by rw [List.any_cons,List.all_cons,h a (by simp),any_notq l fun x hx=>h x (by simp [hx])];cases q a<;>simp
theorem tabF_len (f:Form) (m:Nat):(tabF f m).length=2 ^ m:=by unfold tabF;rw [List.length_map,List.length_range]
theorem tabF_get {f:Form} {m s:Nat} (h:s < 2 ^ m):(tabF f m).getD s false=f.tv s:=by
 unfold tabF
 rw [List.getD_eq_getElem?_getD,List.getElem?_map,List.getElem?_range h]
 rfl
theorem imp_foll (cs:List Cond) (b:Cond) (L:List Cond):impB (tabF (b.form L) L.length) (cs.map fun a=>tabF (a.form L) L.length)=follB cs b L:=by
 unfold impB follB
 rw [tabF_len]
 refine all_congr _ fun s hs => ?_
 have hs:=List.mem_range.1 hs
 rw [tabF_get hs,form_tv,List.any_map,any_notq (q:=fun c:Cond=>c.tv L s) cs (fun x _=>by show (!(tabF (x.form L) L.length).getD s false)=_;rw [tabF_get hs,form_tv]),Bool.or_comm]
theorem allC_tv (cs:List Cond) (L:List Cond) (bits:Int):(allC cs).tv L bits=cs.all fun c=>c.tv L bits:=by
 rw [allC,ctv_mk,if_pos rfl,ctvA_all]
theorem ev_all {cs L:List Cond} (h:∀ c ∈ cs,c.Ev L):(allC cs).Ev L:=.mk (fun h=>by cases h) (fun h=>by cases h) fun _=>h
theorem follows4_sem (cs:List Cond) (b:Cond) (L:List Cond) (hL:L.length≤12) (ha:∀ c ∈ cs,c.Ev L) (hb:b.Ev L):Sem Tryz.prog 23 [.sl 0 6 (cs.map Cond.row),.agg b.row,.sl 0 6 (L.map Cond.row)] (.bool (follB cs b L)):=by
 obtain ⟨N,hN,hN2⟩:∃ N:Nat,2 ^ L.length=N∧N≤4096:=⟨_,rfl,two_pow_le hL⟩
 have hll:(L.map Cond.row).length=L.length:=List.length_map _
 have hw:=shl_ok (many:=(L.map Cond.row).length) (by rw [hll];exact hN) hN2
 have h1:∀ s:Nat,Sem Tryz.prog 41 [.agg (allC cs).row,.sl 0 6 (L.map Cond.row),.int .i64 s] (.bool (cs.all fun c=>c.tv L s)):=fun s=>by
  rw [← allC_tv]
  exact isTrue4_sem L (by omega) _ (ev_all ha) s (by omega)
 have h2:∀ s:Nat,Sem Tryz.prog 41 [.agg b.row,.sl 0 6 (L.map Cond.row),.int .i64 s] (.bool (b.tv L s)):=fun s=>isTrue4_sem L (by omega) _ hb s (by omega)
 obtain ⟨good,hgd⟩:∃ good:Nat→Bool,good=fun s:Nat => !(cs.all fun c=>c.tv L s) || b.tv L s:=⟨_,rfl⟩
 have hfo:follB cs b L=(List.range N).all good:=by rw [← hN,hgd];rfl
 rw [hfo]
 have hgd:∀ s:Nat,good s=(!(cs.all fun c=>c.tv L s) || b.tv L s):=fun s=>by rw [hgd]
 generalize (fun s:Nat=>cs.all fun c=>c.tv L s)=ta at h1 hgd
 obtain ⟨k,ks,p,vs,lo,hi⟩:=b
 rw [allC] at h1
 rw [Cond.row_mk] at h2 ⊢
 simp only [Cond.row_mk,List.map_nil] at h1
 refine sem_intro (M:=fun t=>mem t [1000021,1000034,1000044]) hT hM Tryz.func23 inferInstance rfl rfl rfl rfl rfl rfl ?_
 repeat' (
  (conv=>whnf)
  first
   | ((try ((with_reducible first|apply NumE.go|apply IdxE.go|apply TextE.go|apply LookE.go|apply CallE.go);(conv=>whnf)));(with_reducible apply SideD.mk);(focus ((first|(intro hc;have hc0:=hc;(try simp only [SPLT] at hc);(try refine And.intro (by first|exact hc0|exact ⟨hc0,hc0⟩|exact ⟨hc0,hc0,hc0⟩) ?_))|skip);first|((try apply givesl);(focus (((apply gives_go (r4AllX_sem _));(focus (exact DLes.au));(focus exact rfl);(all_goals (exact pre)))));(all_goals exact rfl))|exact sideG)))
   | ((with_reducible first|apply DrawR.go0|apply KerB.mk);(focus kernel_rfl))
   | (with_reducible first|apply ends_ret|apply ends_norm|apply Halt'.mk)
   | ((with_reducible apply CondD.mk)<;>intro hb<;>(try simp only [SPLT] at hb)<;>(try first|exact noB)))
 all_goals (try exact (false:Bool))
 refine loop_go (M:=fun t=>mem t [1000021,1000034,1000044]) hT hM (fun s:Nat => [(7,.int .i64 s)]) (fun s=>s≤N∧(List.range s).all good=true) (fun s=>N - s) (0) ?_ ?_ ?_
 ·(conv=>whnf)
  refine ⟨?_,by rfl⟩
  repeat' ((conv=>whnf);first|exact endF|exact endF2|with_reducible apply DLes.cons)
 ·exact ⟨Nat.zero_le _,rfl⟩
 ·rintro s ⟨hs1,hs2⟩
  have h1:=h1 s
  have h2:=h2 s
  have hg:=hgd s
  by_cases hlt:s < N
  ·have hno:good s=false→(List.range N).all good=false:=fun h=>by
    rw [List.all_eq_false]
    exact ⟨s,List.mem_range.2 hlt,by simp [h]⟩
   have hyes:good s=true→(List.range (s+1)).all good=true:=fun h=>by
    rw [List.range_succ,List.all_append,hs2]
    simp [h]
   generalize (List.range N).all good=r at hno ⊢
   generalize (cs.all fun c=>c.tv L s)=qa at h1 hg
   generalize (Cond.mk k ks p vs lo hi).tv L s=qb at h2 hg
   repeat' (
    (conv=>whnf)
    first
     | ((try ((with_reducible first|apply NumE.go|apply IdxE.go|apply TextE.go|apply LookE.go|apply CallE.go);(conv=>whnf)));(with_reducible apply SideD.mk);(focus ((first|(intro hc;have hc0:=hc;(try simp only [SPLT] at hc);(try refine And.intro (by first|exact hc0|exact ⟨hc0,hc0⟩|exact ⟨hc0,hc0,hc0⟩) ?_))|skip);first|(exact ⟨by omega,by show _≤(64:Int);omega,hw⟩)|((try apply givesl);(focus (first|((apply gives_go (h1));(focus (exact DLes.au));(focus exact rfl);(all_goals (exact pre)))|((apply gives_go (h2));(focus (exact DLes.au));(focus exact rfl);(all_goals (exact pre)))|((apply gives_go (r4AllX_sem _));(focus (exact DLes.au));(focus exact rfl);(all_goals (exact pre)))));(all_goals exact rfl))|exact sideG)))
     | ((with_reducible first|apply DrawR.go0|apply KerB.mk);(focus kernel_rfl))
     | (with_reducible first|apply ends_ret|apply ends_norm|apply Halt'.mk)
     | ((with_reducible apply CondD.mk)<;>intro hb<;>(try simp only [SPLT] at hb)<;>(try first|exact noB)))
   all_goals (try exact (false:Bool))
   ·repeat' ((conv=>whnf);first|exact endR|(with_reducible first|apply And.intro|apply endsO_ret|apply endsO_norm|apply DLes.cons))
    all_goals (conv=>whnf)
    exact rle_bool (hno (by rw [hg];revert hb;cases qa<;>cases qb<;>simp)).symm
   ·refine ⟨s+1,⟨by omega,hyes (by rw [hg];revert hb;cases qa<;>cases qb<;>simp)⟩,by omega,?_⟩
    (conv=>whnf)
    refine ⟨?_,by rfl⟩
    repeat' ((conv=>whnf);first|exact endF|exact endF2|with_reducible apply DLes.cons)
  ·obtain rfl:s=N:=by omega
   repeat' (
    (conv=>whnf)
    first
     | ((try ((with_reducible first|apply NumE.go|apply IdxE.go|apply TextE.go|apply LookE.go|apply CallE.go);(conv=>whnf)));(with_reducible apply SideD.mk);(focus ((first|(intro hc;have hc0:=hc;(try simp only [SPLT] at hc);(try refine And.intro (by first|exact hc0|exact ⟨hc0,hc0⟩|exact ⟨hc0,hc0,hc0⟩) ?_))|skip);first|(exact ⟨by omega,by show _≤(64:Int);omega,hw⟩)|((try apply givesl);(focus (((apply gives_go (r4AllX_sem _));(focus (exact DLes.au));(focus exact rfl);(all_goals (exact pre)))));(all_goals exact rfl))|exact sideG)))
     | ((with_reducible first|apply DrawR.go0|apply KerB.mk);(focus kernel_rfl))
     | (with_reducible first|apply ends_ret|apply ends_norm|apply Halt'.mk)
     | ((with_reducible apply CondD.mk)<;>intro hb<;>(try simp only [SPLT] at hb)<;>(try first|exact noB)))
   all_goals (try exact (false:Bool))
   repeat' ((conv=>whnf);first|exact endR|(with_reducible first|apply And.intro|apply endsO_ret|apply endsO_norm|apply DLes.cons))
   all_goals (conv=>whnf)
   exact rle_bool hs2.symm
theorem acnts_sizes:∀ l:List Cond,(∀ x ∈ l,x.acnt≤x.size)→Cond.acnts l≤Cond.sizes l
 | [],_=>by rw [acnts_nil];exact Nat.zero_le _
 | x::l,h=>by
  have h1:=h x (by simp)
  have h2:=acnts_sizes l fun y hy=>h y (by simp [hy])
  rw [acnts_cons,sizes_cons]
  omega
theorem acnt_size (c:Cond):c.acnt≤c.size:=by
 induction c using Cond.ind with
 | h k ks p vs lo hi ih=>
  rw [acnt_mk,size_mk]
  split
  ·omega
  ·have:=acnts_sizes ks ih
   omega
/-- A condition without error. -/
structure Cond.Good (c:Cond):Prop where
 nice:c.Nice 200
 few:c.acnt≤200
theorem err_good {c:Cond} (ht:c.Txt) (h:c.err=0):c.Good:=by
 have h1:=chk_ok c 0 0 (by omega) (by omega) ht h
 have h2:=(chk_bd c 0 0 (by omega)).2 h
 have h3:=acnt_size c
 exact ⟨h1.2,by omega⟩
end Go.Proofs.YtnlbekongmkmjaaGreatDoor
namespace Go.Proofs.YtnlbekongmkmjaaGreatDoor
set_option linter.unusedSimpArgs false
set_option linter.unusedVariables false
open Go.RowKit
set_option maxRecDepth 100000
structure Rul where
 n:Str
 c:Cond
def Rul.row (r:Rul):List D:=.str r.n::r.c.row
structure Rul.Ok (r:Rul):Prop where
 n:r.n.length≤9223372036854775807
 c:r.c.Txt
theorem idx_rul {l:List Rul} {i:Int} {j:Nat} {n:Str} {k:Int} {ks:List Cond} {p:Str} {vs:List Str} {lo hi:Int} (h:l[j]?=some ⟨n,.mk k ks p vs lo hi⟩) (hi':i=j):0≤i∧(l.map Rul.row)[i.toNat]?=some [.str n,.int .i64 k,.sl 0 6 (ks.map Cond.row),.str p,.sl 0 1 (vs.map fun s => [.str s]),.int .i64 lo,.int .i64 hi]:=by
 subst hi'
 refine ⟨by omega,?_⟩
 rw [Int.toNat_natCast,List.getElem?_map,h,Option.map_some,Rul.row,Cond.row_mk]
theorem blt_nil (a:List UInt8):Op.bytesLess a []=false:=by cases a<;>rfl
theorem blt_cons (x y:UInt8) (a b:List UInt8):Op.bytesLess (x::a) (y::b)=true↔x.toNat < y.toNat∨(x=y∧Op.bytesLess a b=true):=by
 simp only [Op.bytesLess,Bool.or_eq_true,decide_eq_true_eq,Bool.and_eq_true,beq_iff_eq]
 exact Iff.rfl
theorem blt_trans:∀ {a b c:List UInt8},Op.bytesLess a b=true→Op.bytesLess b c=true→Op.bytesLess a c=true
 | _,b,[],_,h=>by rw [blt_nil] at h;cases h
 | _,[],_::_,h,_=>by rw [blt_nil] at h;cases h
 | [],_::_,_::_,_,_=>rfl
 | x::a,y::b,z::c,h,k=>by
  rw [blt_cons] at *
  rcases h with h|⟨rfl,h⟩
  ·rcases k with k|⟨rfl,k⟩
   ·left;omega
   ·left;exact h
  ·rcases k with k|⟨rfl,k⟩
   ·left;exact k
   ·exact .inr ⟨rfl,blt_trans h k⟩
theorem blt_irrefl:∀ a:List UInt8,Op.bytesLess a a=false
 | []=>rfl
 | x::a=>by
  rw [Bool.eq_false_iff]
  intro h
  rw [blt_cons] at h
  rcases h with h|⟨_,h⟩
  ·omega
  ·rw [blt_irrefl a] at h;cases h
theorem blt_total:∀ a b:List UInt8,Op.bytesLess a b=true∨a=b∨Op.bytesLess b a=true
 | [],[]=>.inr (.inl rfl)
 | [],_::_=>.inl rfl
 | _::_,[]=>.inr (.inr rfl)
 | x::a,y::b=>by
  rw [blt_cons,blt_cons]
  rcases Nat.lt_trichotomy x.toNat y.toNat with h|h|h
  ·exact .inl (.inl h)
  ·have hxy:x=y:=UInt8.toNat_inj.1 h
   subst hxy
   rcases blt_total a b with h|rfl|h
   ·exact .inl (.inr ⟨rfl,h⟩)
   ·exact .inr (.inl rfl)
   ·exact .inr (.inr (.inr ⟨rfl,h⟩))
  ·exact .inr (.inr (.inl h))
theorem notAft_lt {q n:Str} (h:notAfter (some q) n=false):Op.bytesLess q n=true:=by
 simp only [notAfter,Bool.or_eq_false_iff] at h
 rcases blt_total q n with g|rfl|g
 ·exact g
 ·simp at h
 ·rw [h.1] at g;cases g
/-- What is wrong with rules behind a name. -/
def rulesE:Option Str→List Rul→Int
 | _,[]=>0
 | p,r::l=>if isNameB r.n=false then 5 else if notAfter p r.n=true then 8 else if r.c.err ≠ 0 then r.c.err else rulesE (some r.n) l
def rulesN (l:List Rul):Int:=if 200 < l.length then 2 else rulesE none l
def prevR (l:List Rul):Nat→Option Str
 | 0=>none
 | j+1=>l[j]?.map Rul.n
theorem rulesE_at {l:List Rul} {k:Nat} {r:Rul} {p:Option Str} (h:l[k]?=some r):rulesE p (l.drop k)=if isNameB r.n=false then 5 else if notAfter p r.n=true then 8 else if r.c.err ≠ 0 then r.c.err else rulesE (some r.n) (l.drop (k+1)):=by
 rw [List.drop_eq_getElem_cons (List.getElem?_eq_some_iff.1 h).1,(List.getElem?_eq_some_iff.1 h).2]
 rfl
theorem prevR_bad {l:List Rul} {k:Nat} {q:Rul} {n:Str} (hq:0 < k→l[k - 1]?=some q):notAfter (prevR l k) n=(decide (0 < (k:Int)) && (Op.bytesLess n q.n || n == q.n)):=by
 cases k with
 | zero=>rfl
 | succ j=>
  have:=hq (by omega)
  simp only [Nat.add_sub_cancel] at this
  simp only [prevR,this,Option.map_some,notAfter]
  rw [decide_eq_true (by omega),Bool.true_and]
theorem nofR {k:Nat} {a b:Bool} (h:(k:Int)≤0∨a=false∧¬ b=true):¬ (decide (0 < (k:Int)) && (a || b))=true:=by
 simp only [Bool.and_eq_true,Bool.or_eq_true,decide_eq_true_eq]
 rintro ⟨h1,h2⟩
 rcases h with h|⟨h3,h4⟩
 ·omega
 ·rcases h2 with h2|h2
  ·rw [h3] at h2;cases h2
  ·exact h4 h2
theorem prevR_next {l:List Rul} {k:Nat} {r:Rul} (h:l[k]?=some r):prevR l (k+1)=some r.n:=by rw [prevR,h,Option.map_some]
/-- Names that rise. -/
def RisingR (l:List Rul):Prop:=l.Pairwise fun p q=>Op.bytesLess p.n q.n=true
theorem rulesE_ok:∀ (l:List Rul) (p:Option Str),rulesE p l=0→(∀ r ∈ l,r.c.err=0)∧RisingR l∧∀ q,p=some q→∀ r ∈ l,Op.bytesLess q r.n=true
 | [],_,_=>⟨by simp,.nil,by simp⟩
 | r::l,p,h=>by
  rw [rulesE] at h
  split at h
  ·omega
  ·split at h
   ·omega
   ·rename_i h2
    split at h
    ·omega
    ·rename_i h3
     obtain ⟨i1,i2,i3⟩:=rulesE_ok l (some r.n) h
     refine ⟨fun x hx => ?_,List.Pairwise.cons (fun x hx=>i3 _ rfl x hx) i2,fun q hq x hx => ?_⟩
     ·rcases List.mem_cons.1 hx with rfl|hx
      ·simpa using h3
      ·exact i1 x hx
     ·subst hq
      have hqr:=notAft_lt (by simpa using h2:notAfter (some q) r.n=false)
      rcases List.mem_cons.1 hx with rfl|hx
      ·exact hqr
      ·exact blt_trans hqr (i3 _ rfl x hx)
theorem rul_ne {l:List Rul} (h:RisingR l) {i k:Nat} {a b:Rul} (ha:l[i]?=some a) (hb:l[k]?=some b) (hik:i ≠ k):a.n ≠ b.n:=by
 have key:∀ {i k:Nat} {a b:Rul},l[i]?=some a→l[k]?=some b→i < k→a.n ≠ b.n:=fun {i k a b} ha hb hlt e=>by
  have h1:=List.pairwise_iff_getElem.1 h i k (List.getElem?_eq_some_iff.1 ha).1 (List.getElem?_eq_some_iff.1 hb).1 hlt
  rw [(List.getElem?_eq_some_iff.1 ha).2,(List.getElem?_eq_some_iff.1 hb).2,e,blt_irrefl] at h1
  cases h1
 rcases Nat.lt_or_gt_of_ne hik with h1|h1
 ·exact key ha hb h1
 ·exact fun e=>key hb ha h1 e.symm
/-- The conditions that are left beside one rule, up to a place. -/
def othersTo (l:List Rul) (g:List Bool) (i:Nat):Nat→List Cond
 | 0 => []
 | k+1=>match l[k]? with
  | some r=>if k ≠ i∧g.getD k false=false then othersTo l g i k ++ [r.c] else othersTo l g i k
  | none=>othersTo l g i k
theorem others_at {l:List Rul} {k:Nat} {r:Rul} (g:List Bool) (i:Nat) (h:l[k]?=some r):othersTo l g i (k+1)=if k ≠ i∧g.getD k false=false then othersTo l g i k ++ [r.c] else othersTo l g i k:=by rw [othersTo,h]
theorem others_mem {l:List Rul} {g:List Bool} {i:Nat}:∀ (k:Nat) (c:Cond),c ∈ othersTo l g i k→∃ r ∈ l,r.c=c
 | 0,c,h=>by cases h
 | k+1,c,h=>by
  rw [othersTo] at h
  split at h
  ·rename_i r hr
   split at h
   ·rcases List.mem_append.1 h with h|h
    ·exact others_mem k c h
    ·exact ⟨r,List.mem_of_getElem? hr,(List.mem_singleton.1 h).symm⟩
   ·exact others_mem k c h
  ·exact others_mem k c h
theorem others_len {l:List Rul} {g:List Bool} {i:Nat}:∀ k:Nat,(othersTo l g i k).length≤k
 | 0=>Nat.le_refl _
 | k+1=>by
  have ih:=others_len (l:=l) (g:=g) (i:=i) k
  rw [othersTo]
  split
  ·split
   ·rw [List.length_append,List.length_singleton];omega
   ·omega
  ·omega
/-- Which rules are gone behind so many, and their names. -/
def goneTo (l:List Rul) (A:List Cond):Nat→List Bool × List Str
 | 0=>(List.replicate l.length false,[])
 | i+1=>match l[i]? with
  | some r=>if follB (othersTo l (goneTo l A i).1 i l.length) r.c A=true then ((goneTo l A i).1.set i true,(goneTo l A i).2 ++ [r.n]) else goneTo l A i
  | none=>goneTo l A i
theorem gone_at {l:List Rul} {i:Nat} {r:Rul} (A:List Cond) (h:l[i]?=some r):goneTo l A (i+1)=if follB (othersTo l (goneTo l A i).1 i l.length) r.c A=true then ((goneTo l A i).1.set i true,(goneTo l A i).2 ++ [r.n]) else goneTo l A i:=by rw [goneTo,h]
theorem gone_len {l:List Rul} {A:List Cond}:∀ i:Nat,(goneTo l A i).1.length=l.length∧(goneTo l A i).2.length≤i
 | 0=>⟨by rw [goneTo,List.length_replicate],Nat.le_refl _⟩
 | i+1=>by
  obtain ⟨h1,h2⟩:=gone_len (l:=l) (A:=A) i
  rw [goneTo]
  split
  ·split
   ·exact ⟨by rw [List.length_set];exact h1,by rw [List.length_append,List.length_singleton];omega⟩
   ·exact ⟨h1,by omega⟩
  ·exact ⟨h1,by omega⟩
theorem gone_has {l:List Rul} {A:List Cond} (hR:RisingR l):∀ (i k:Nat) (r:Rul),l[k]?=some r→(goneTo l A i).2.contains r.n=(goneTo l A i).1.getD k false
 | 0,k,r,h=>by
  rw [goneTo]
  simp [List.getD_eq_getElem?_getD,List.getElem?_replicate]
  split<;>rfl
 | i+1,k,r,h=>by
  have ih:=gone_has (A:=A) hR i k r h
  rw [goneTo]
  split
  ·rename_i r' hr'
   split
   ·dsimp only
    rw [List.getD_eq_getElem?_getD,List.getElem?_set,List.contains_eq_any_beq,List.any_append,← List.contains_eq_any_beq,ih]
    by_cases hik:i=k
    ·subst hik
     rw [hr'] at h
     cases h
     rw [if_pos rfl,if_pos (by rw [(gone_len i).1];exact (List.getElem?_eq_some_iff.1 hr').1)]
     simp
    ·have hne:=rul_ne hR hr' h hik
     rw [if_neg hik,List.getD_eq_getElem?_getD]
     have:(r.n == r'.n)=false:=by simpa using fun e=>hne e.symm
     simp [this]
   ·exact ih
  ·exact ih
/-- The needless rules, with the error. -/
def needlessN (l:List Rul):List Str × Int:=
 if rulesN l ≠ 0 then ([],rulesN l) else if 12 < (Cond.atss (l.map Rul.c) []).length then ([],2) else ((goneTo l (Cond.atss (l.map Rul.c) []) l.length).2,0)
/-- Rules without error. -/
structure RulsGood (l:List Rul):Prop where
 few:l.length≤200
 nice:∀ r ∈ l,r.c.Good
 rise:RisingR l
theorem ruls_good {l:List Rul} (ht:∀ r ∈ l,r.Ok) (h:rulesN l=0):RulsGood l:=by
 unfold rulesN at h
 split at h
 ·omega
 ·obtain ⟨h1,h2,_⟩:=rulesE_ok l none h
  exact ⟨by omega,fun r hr=>err_good (ht r hr).c (h1 r hr),h2⟩
theorem ruls_acnts:∀ l:List Rul,(∀ r ∈ l,r.c.Good)→Cond.acnts (l.map Rul.c)≤200 * l.length
 | [],_=>by rw [List.map_nil,acnts_nil];exact Nat.zero_le _
 | r::l,h=>by
  have h1:=ruls_acnts l fun x hx=>h x (by simp [hx])
  have h2:=(h r (by simp)).few
  rw [List.map_cons,acnts_cons,List.length_cons]
  omega
theorem ruls_in (l:List Rul):∀ r ∈ l,r.c.In (Cond.atss (l.map Rul.c) []):=fun r hr=>
 (atss_grow (l.map Rul.c) (fun c _=>ats_grow c) []).2 r.c (List.mem_map.2 ⟨r,hr,rfl⟩)
theorem ruls_ev {l:List Rul} (h:RulsGood l):∀ r ∈ l,r.c.Ev (Cond.atss (l.map Rul.c) []):=fun r hr=>nice_ev r.c (h.nice r hr).nice (ruls_in l r hr)
end Go.Proofs.YtnlbekongmkmjaaGreatDoor
namespace Go.Proofs.YtnlbekongmkmjaaGreatDoor
set_option linter.unusedSimpArgs false
set_option linter.unusedVariables false
open Go.RowKit
set_option maxRecDepth 100000
set_option maxHeartbeats 4000000
theorem checkRules_sem (l:List Rul) (hok:∀ r ∈ l,r.Ok):Sem Tryz.prog 15 [.sl 0 7 (l.map Rul.row)] (.int .i64 (rulesN l)):=by
 have hll:(l.map Rul.row).length=l.length:=List.length_map _
 refine sem_intro (M:=fun t=>mem t [4,2000004,1000021,1000034,1000044]) hT hM Tryz.func15 inferInstance rfl rfl rfl rfl rfl rfl ?_
 repeat' (
  (conv=>whnf)
  first
   | ((try ((with_reducible first|apply NumE.go|apply IdxE.go|apply TextE.go|apply LookE.go|apply CallE.go);(conv=>whnf)));(with_reducible apply SideD.mk);(focus ((first|(intro hc;have hc0:=hc;(try simp only [SPLT] at hc);(try refine And.intro (by first|exact hc0|exact ⟨hc0,hc0⟩|exact ⟨hc0,hc0,hc0⟩) ?_))|skip);first|((try apply givesl);(focus (first|((apply gives_go (checkCond_sem _));(focus (exact DLes.au));(focus exact rfl);(all_goals (exact pre)))|((first|apply gives_go (isName_sem _ _)|apply gives_go (bgm_check ));(focus (exact DLes.au));(focus exact rfl);(all_goals (exact pre)))));(all_goals exact rfl))|exact sideG)))
   | ((with_reducible first|apply DrawR.go0|apply KerB.mk);(focus kernel_rfl))
   | (with_reducible first|apply ends_ret|apply ends_norm|apply Halt'.mk)
   | ((with_reducible apply CondD.mk)<;>intro hb<;>(try simp only [SPLT] at hb)<;>(try first|exact noB)))
 all_goals (try exact (false:Bool))
 ·repeat' ((conv=>whnf);first|exact endR|(with_reducible first|apply And.intro|apply endsO_ret|apply endsO_norm|apply DLes.cons))
  all_goals (conv=>whnf)
  exact rle_int (by rw [rulesN,if_pos (by omega)])
 ·have hR:rulesN l=rulesE none l:=by rw [rulesN,if_neg (by omega)]
  generalize rulesN l=R at hR ⊢
  refine loop_go (M:=fun t=>mem t [4,2000004,1000021,1000034,1000044]) hT hM (fun k:Nat => [(11,.int .i64 k)]) (fun k=>k≤l.length∧rulesE (prevR l k) (l.drop k)=R) (fun k=>l.length - k) (0) ?_ ?_ ?_
  ·(conv=>whnf)
   refine ⟨?_,by rfl⟩
   repeat' ((conv=>whnf);first|exact endF|exact endF2|with_reducible apply DLes.cons)
  ·exact ⟨Nat.zero_le _,hR.symm⟩
  ·rintro k ⟨hk,hv⟩
   cases hx:l[k]? with
   | none=>
    have hm':=List.getElem?_eq_none_iff.1 hx
    rw [List.drop_of_length_le hm',rulesE] at hv
    repeat' (
     (conv=>whnf)
     first
      | ((try ((with_reducible first|apply NumE.go|apply IdxE.go|apply TextE.go|apply LookE.go|apply CallE.go);(conv=>whnf)));(with_reducible apply SideD.mk);(focus ((first|(intro hc;have hc0:=hc;(try simp only [SPLT] at hc);(try refine And.intro (by first|exact hc0|exact ⟨hc0,hc0⟩|exact ⟨hc0,hc0,hc0⟩) ?_))|skip);first|((try apply givesl);(focus (first|((apply gives_go (checkCond_sem _));(focus (exact DLes.au));(focus exact rfl);(all_goals (exact pre)))|((first|apply gives_go (isName_sem _ _)|apply gives_go (bgm_check ));(focus (exact DLes.au));(focus exact rfl);(all_goals (exact pre)))));(all_goals exact rfl))|exact sideG)))
      | ((with_reducible first|apply DrawR.go0|apply KerB.mk);(focus kernel_rfl))
      | (with_reducible first|apply ends_ret|apply ends_norm|apply Halt'.mk)
      | ((with_reducible apply CondD.mk)<;>intro hb<;>(try simp only [SPLT] at hb)<;>(try first|exact noB)))
    all_goals (try exact (false:Bool))
    repeat' ((conv=>whnf);first|exact endR|(with_reducible first|apply And.intro|apply endsO_ret|apply endsO_norm|apply DLes.cons))
    all_goals (conv=>whnf)
    exact rle_int hv
   | some r=>
    have hlt:=(List.getElem?_eq_some_iff.1 hx).1
    obtain ⟨q,hq⟩:∃ q:Rul,0 < k→l[k - 1]?=some q:=⟨l[k - 1]?.getD r,fun h=>by rw [List.getElem?_eq_getElem (by omega)];rfl⟩
    have hnx:=prevR_next hx
    have hro:=hok r (List.mem_of_getElem? hx)
    have h1:=isName_sem r.n hro.n
    have h2:=checkCond_sem r.c
    rw [rulesE_at hx,prevR_bad hq] at hv
    obtain ⟨n,c⟩:=r
    obtain ⟨qn,⟨kq,ksq,pq,vsq,loq,hiq⟩⟩:=q
    dsimp only at h1 h2 hv hnx
    generalize isNameB n=b1 at h1 hv
    generalize c.err=e1 at h2 hv
    obtain ⟨k1,ks1,p1,vs1,lo1,hi1⟩:=c
    rw [Cond.row_mk] at h2
    repeat' (
     (conv=>whnf)
     first
      | ((try ((with_reducible first|apply NumE.go|apply IdxE.go|apply TextE.go|apply LookE.go|apply CallE.go);(conv=>whnf)));(with_reducible apply SideD.mk);(focus ((first|(intro hc;have hc0:=hc;(try simp only [SPLT] at hc);(try refine And.intro (by first|exact hc0|exact ⟨hc0,hc0⟩|exact ⟨hc0,hc0,hc0⟩) ?_))|skip);first|(exact idx_rul hx rfl)|(exact idx_rul (hq (by omega)) (by omega))|((try apply givesl);(focus (first|((apply gives_go (h1));(focus (exact DLes.au));(focus exact rfl);(all_goals (exact pre)))|((apply gives_go (h2));(focus (exact DLes.au));(focus exact rfl);(all_goals (exact pre)))|((apply gives_go (checkCond_sem _));(focus (exact DLes.au));(focus exact rfl);(all_goals (exact pre)))|((first|apply gives_go (isName_sem _ _)|apply gives_go (bgm_check ));(focus (exact DLes.au));(focus exact rfl);(all_goals (exact pre)))));(all_goals exact rfl))|exact sideG)))
      | ((with_reducible first|apply DrawR.go0|apply KerB.mk);(focus kernel_rfl))
      | (with_reducible first|apply ends_ret|apply ends_norm|apply Halt'.mk)
      | ((with_reducible apply CondD.mk)<;>intro hb<;>(try simp only [SPLT] at hb)<;>(try first|exact noB)))
    all_goals (try exact (false:Bool))
    ·repeat' ((conv=>whnf);first|exact endR|(with_reducible first|apply And.intro|apply endsO_ret|apply endsO_norm|apply DLes.cons))
     all_goals (conv=>whnf)
     exact rle_int (by rw [← hv,if_pos hb])
    ·rename_i hn
     repeat' ((conv=>whnf);first|exact endR|(with_reducible first|apply And.intro|apply endsO_ret|apply endsO_norm|apply DLes.cons))
     all_goals (conv=>whnf)
     exact rle_int (by rw [← hv,if_neg (by simp [hn]),if_pos (by simpa using hb)])
    ·rename_i hn hc
     repeat' ((conv=>whnf);first|exact endR|(with_reducible first|apply And.intro|apply endsO_ret|apply endsO_norm|apply DLes.cons))
     all_goals (conv=>whnf)
     exact rle_int (by rw [← hv,if_neg (by simp [hn]),if_neg (nofR (by simpa using hc)),if_pos hb])
    ·rename_i hn hc
     refine ⟨k+1,⟨by omega,by rw [hnx,← hv,if_neg (by simp [hn]),if_neg (nofR (by simpa using hc)),if_neg (by simpa using hb)]⟩,by omega,?_⟩
     (conv=>whnf)
     refine ⟨?_,by rfl⟩
     repeat' ((conv=>whnf);first|exact endF|exact endF2|with_reducible apply DLes.cons)
theorem checkRules4_sem (l:List Rul) (hok:∀ r ∈ l,r.Ok):Sem Tryz.prog 16 [.sl 0 7 (l.map Rul.row)] (.int .i64 (rulesN l)):=by
 have hll:(l.map Rul.row).length=l.length:=List.length_map _
 refine sem_intro (M:=fun t=>mem t [1000021,1000034,1000044]) hT hM Tryz.func16 inferInstance rfl rfl rfl rfl rfl rfl ?_
 repeat' (
  (conv=>whnf)
  first
   | ((try ((with_reducible first|apply NumE.go|apply IdxE.go|apply TextE.go|apply LookE.go|apply CallE.go);(conv=>whnf)));(with_reducible apply SideD.mk);(focus ((first|(intro hc;have hc0:=hc;(try simp only [SPLT] at hc);(try refine And.intro (by first|exact hc0|exact ⟨hc0,hc0⟩|exact ⟨hc0,hc0,hc0⟩) ?_))|skip);first|((try apply givesl);(focus (((first|apply gives_go (isName2_sem _ _)|apply gives_go (checkCond4_sem _ _));(focus (exact DLes.au));(focus exact rfl);(all_goals (exact pre)))));(all_goals exact rfl))|exact sideG)))
   | ((with_reducible first|apply DrawR.go0|apply KerB.mk);(focus kernel_rfl))
   | (with_reducible first|apply ends_ret|apply ends_norm|apply Halt'.mk)
   | ((with_reducible apply CondD.mk)<;>intro hb<;>(try simp only [SPLT] at hb)<;>(try first|exact noB)))
 all_goals (try exact (false:Bool))
 ·repeat' ((conv=>whnf);first|exact endR|(with_reducible first|apply And.intro|apply endsO_ret|apply endsO_norm|apply DLes.cons))
  all_goals (conv=>whnf)
  exact rle_int (by rw [rulesN,if_pos (by omega)])
 ·have hR:rulesN l=rulesE none l:=by rw [rulesN,if_neg (by omega)]
  generalize rulesN l=R at hR ⊢
  refine loop_go (M:=fun t=>mem t [1000021,1000034,1000044]) hT hM (fun k:Nat => [(3,.int .i64 k)]) (fun k=>k≤l.length∧rulesE (prevR l k) (l.drop k)=R) (fun k=>l.length - k) (0) ?_ ?_ ?_
  ·(conv=>whnf)
   refine ⟨?_,by rfl⟩
   repeat' ((conv=>whnf);first|exact endF|exact endF2|with_reducible apply DLes.cons)
  ·exact ⟨Nat.zero_le _,hR.symm⟩
  ·rintro k ⟨hk,hv⟩
   cases hx:l[k]? with
   | none=>
    have hm':=List.getElem?_eq_none_iff.1 hx
    rw [List.drop_of_length_le hm',rulesE] at hv
    repeat' (
     (conv=>whnf)
     first
      | ((try ((with_reducible first|apply NumE.go|apply IdxE.go|apply TextE.go|apply LookE.go|apply CallE.go);(conv=>whnf)));(with_reducible apply SideD.mk);(focus ((first|(intro hc;have hc0:=hc;(try simp only [SPLT] at hc);(try refine And.intro (by first|exact hc0|exact ⟨hc0,hc0⟩|exact ⟨hc0,hc0,hc0⟩) ?_))|skip);first|((try apply givesl);(focus (((first|apply gives_go (isName2_sem _ _)|apply gives_go (checkCond4_sem _ _));(focus (exact DLes.au));(focus exact rfl);(all_goals (exact pre)))));(all_goals exact rfl))|exact sideG)))
      | ((with_reducible first|apply DrawR.go0|apply KerB.mk);(focus kernel_rfl))
      | (with_reducible first|apply ends_ret|apply ends_norm|apply Halt'.mk)
      | ((with_reducible apply CondD.mk)<;>intro hb<;>(try simp only [SPLT] at hb)<;>(try first|exact noB)))
    all_goals (try exact (false:Bool))
    repeat' ((conv=>whnf);first|exact endR|(with_reducible first|apply And.intro|apply endsO_ret|apply endsO_norm|apply DLes.cons))
    all_goals (conv=>whnf)
    exact rle_int hv
   | some r=>
    have hlt:=(List.getElem?_eq_some_iff.1 hx).1
    obtain ⟨q,hq⟩:∃ q:Rul,0 < k→l[k - 1]?=some q:=⟨l[k - 1]?.getD r,fun h=>by rw [List.getElem?_eq_getElem (by omega)];rfl⟩
    have hnx:=prevR_next hx
    have hro:=hok r (List.mem_of_getElem? hx)
    have h1:=isName2_sem r.n hro.n
    have h2:=checkCond4_sem r.c hro.c
    rw [rulesE_at hx,prevR_bad hq] at hv
    obtain ⟨n,c⟩:=r
    obtain ⟨qn,⟨kq,ksq,pq,vsq,loq,hiq⟩⟩:=q
    dsimp only at h1 h2 hv hnx
    generalize isNameB n=b1 at h1 hv
    generalize c.err=e1 at h2 hv
    obtain ⟨k1,ks1,p1,vs1,lo1,hi1⟩:=c
    rw [Cond.row_mk] at h2
    repeat' (
     (conv=>whnf)
     first
      | ((try ((with_reducible first|apply NumE.go|apply IdxE.go|apply TextE.go|apply LookE.go|apply CallE.go);(conv=>whnf)));(with_reducible apply SideD.mk);(focus ((first|(intro hc;have hc0:=hc;(try simp only [SPLT] at hc);(try refine And.intro (by first|exact hc0|exact ⟨hc0,hc0⟩|exact ⟨hc0,hc0,hc0⟩) ?_))|skip);first|(exact idx_rul hx rfl)|(exact idx_rul (hq (by omega)) (by omega))|((try apply givesl);(focus (first|((apply gives_go (h1));(focus (exact DLes.au));(focus exact rfl);(all_goals (exact pre)))|((apply gives_go (h2));(focus (exact DLes.au));(focus exact rfl);(all_goals (exact pre)))|((first|apply gives_go (isName2_sem _ _)|apply gives_go (checkCond4_sem _ _));(focus (exact DLes.au));(focus exact rfl);(all_goals (exact pre)))));(all_goals exact rfl))|exact sideG)))
      | ((with_reducible first|apply DrawR.go0|apply KerB.mk);(focus kernel_rfl))
      | (with_reducible first|apply ends_ret|apply ends_norm|apply Halt'.mk)
      | ((with_reducible apply CondD.mk)<;>intro hb<;>(try simp only [SPLT] at hb)<;>(try first|exact noB)))
    all_goals (try exact (false:Bool))
    ·repeat' ((conv=>whnf);first|exact endR|(with_reducible first|apply And.intro|apply endsO_ret|apply endsO_norm|apply DLes.cons))
     all_goals (conv=>whnf)
     exact rle_int (by rw [← hv,if_pos hb])
    ·rename_i hn
     repeat' ((conv=>whnf);first|exact endR|(with_reducible first|apply And.intro|apply endsO_ret|apply endsO_norm|apply DLes.cons))
     all_goals (conv=>whnf)
     exact rle_int (by rw [← hv,if_neg (by simp [hn]),if_pos (by simpa using hb)])
    ·rename_i hn hc
     repeat' ((conv=>whnf);first|exact endR|(with_reducible first|apply And.intro|apply endsO_ret|apply endsO_norm|apply DLes.cons))
     all_goals (conv=>whnf)
     exact rle_int (by rw [← hv,if_neg (by simp [hn]),if_neg (nofR (by simpa using hc)),if_pos hb])
    ·rename_i hn hc
     refine ⟨k+1,⟨by omega,by rw [hnx,← hv,if_neg (by simp [hn]),if_neg (nofR (by simpa using hc)),if_neg (by simpa using hb)]⟩,by omega,?_⟩
     (conv=>whnf)
     refine ⟨?_,by rfl⟩
     repeat' ((conv=>whnf);first|exact endF|exact endF2|with_reducible apply DLes.cons)
theorem has4_sem (l:List Str) (s:Str):Sem Tryz.prog 22 [.sl 0 1 (l.map fun s => [.str s]),.str s] (.bool (l.contains s)):=by
 refine sem_len 0 rfl rfl fun hl => ?_
 rw [List.length_map] at hl
 have hr:l.contains s=(l.drop 0).contains s:=rfl
 generalize l.contains s=r at hr ⊢
 refine sem_intro (M:=fun t=>mem t [1000021,1000034,1000044]) hT hM Tryz.func22 inferInstance rfl rfl rfl rfl rfl rfl ?_
 repeat' (
  (conv=>whnf)
  first
   | ((try ((with_reducible first|apply NumE.go|apply IdxE.go|apply TextE.go|apply LookE.go|apply CallE.go);(conv=>whnf)));(with_reducible apply SideD.mk);(focus (first|exact side)))
   | ((with_reducible first|apply DrawR.go0|apply KerB.mk);(focus kernel_rfl))
   | (with_reducible first|apply ends_ret|apply ends_norm|apply Halt'.mk)
   | ((with_reducible apply CondD.mk)<;>intro hb<;>(try simp only [SPLT] at hb)<;>(try first|exact noB)))
 all_goals (try exact (false:Bool))
 refine loop_go (M:=fun t=>mem t [1000021,1000034,1000044]) hT hM (fun k:Nat => [(5,.int .i64 k)]) (fun k=>k≤l.length∧(l.drop k).contains s=r) (fun k=>l.length - k) (0) ?_ ?_ ?_
 ·(conv=>whnf)
  refine ⟨?_,by rfl⟩
  repeat' ((conv=>whnf);first|exact endF|exact endF2|with_reducible apply DLes.cons)
 ·exact ⟨Nat.zero_le _,hr.symm⟩
 ·rintro k ⟨hk,hv⟩
  have hll:(l.map fun s => [D.str s]).length=l.length:=List.length_map _
  cases hx:l[k]? with
  | none=>
   have hm':=List.getElem?_eq_none_iff.1 hx
   rw [List.drop_of_length_le hm'] at hv
   repeat' (
    (conv=>whnf)
    first
     | ((try ((with_reducible first|apply NumE.go|apply IdxE.go|apply TextE.go|apply LookE.go|apply CallE.go);(conv=>whnf)));(with_reducible apply SideD.mk);(focus (first|exact side)))
     | ((with_reducible first|apply DrawR.go0|apply KerB.mk);(focus kernel_rfl))
     | (with_reducible first|apply ends_ret|apply ends_norm|apply Halt'.mk)
     | ((with_reducible apply CondD.mk)<;>intro hb<;>(try simp only [SPLT] at hb)<;>(try first|exact noB)))
   all_goals (try exact (false:Bool))
   repeat' ((conv=>whnf);first|exact endR|(with_reducible first|apply And.intro|apply endsO_ret|apply endsO_norm|apply DLes.cons))
   all_goals (conv=>whnf)
   exact rle_bool hv
  | some x=>
   have hlt:=(List.getElem?_eq_some_iff.1 hx).1
   rw [List.drop_eq_getElem_cons hlt,(List.getElem?_eq_some_iff.1 hx).2,List.contains_cons] at hv
   repeat' (
    (conv=>whnf)
    first
     | ((try ((with_reducible first|apply NumE.go|apply IdxE.go|apply TextE.go|apply LookE.go|apply CallE.go);(conv=>whnf)));(with_reducible apply SideD.mk);(focus (first|(exact idx_eq (f:=fun s => [D.str s]) hx rfl)|exact side)))
     | ((with_reducible first|apply DrawR.go0|apply KerB.mk);(focus kernel_rfl))
     | (with_reducible first|apply ends_ret|apply ends_norm|apply Halt'.mk)
     | ((with_reducible apply CondD.mk)<;>intro hb<;>(try simp only [SPLT] at hb)<;>(try first|exact noB)))
   all_goals (try exact (false:Bool))
   ·repeat' ((conv=>whnf);first|exact endR|(with_reducible first|apply And.intro|apply endsO_ret|apply endsO_norm|apply DLes.cons))
    all_goals (conv=>whnf)
    refine rle_bool ?_
    rw [← hv]
    have:(s == x)=true:=by simp_all
    rw [this,Bool.true_or]
   ·refine ⟨k+1,⟨by omega,?_⟩,by omega,?_⟩
    ·rw [← hv]
     have:(s == x)=false:=by simp only [beq_eq_false_iff_ne,ne_eq];exact fun e=>by simp_all
     rw [this,Bool.false_or]
    ·(conv=>whnf)
     refine ⟨?_,by rfl⟩
     repeat' ((conv=>whnf);first|exact endF|exact endF2|with_reducible apply DLes.cons)
end Go.Proofs.YtnlbekongmkmjaaGreatDoor
namespace Go.Proofs.YtnlbekongmkmjaaGreatDoor
set_option linter.unusedSimpArgs false
set_option linter.unusedVariables false
open Go.RowKit
set_option maxRecDepth 100000
set_option maxHeartbeats 4000000
def tabC (A:List Cond) (r:Rul):List Bool:=tabF (r.c.form A) A.length
theorem needless_sem (l:List Rul) (hok:∀ r ∈ l,r.Ok):Sem Tryz.prog 7 [.sl 0 7 (l.map Rul.row)] (.tup [.sl 0 1 ((needlessN l).1.map fun s => [.str s]),.int .i64 (needlessN l).2]):=by
 have h1:=checkRules_sem l hok
 have hll:(l.map Rul.row).length=l.length:=List.length_map _
 unfold needlessN
 by_cases g1:rulesN l=0
 ·have hG:=ruls_good hok g1
  have hfew:=hG.few
  rw [g1] at h1
  rw [if_neg (by simpa using g1)]
  have h2:=formulas_sem (l.map Rul.c) (by rw [List.length_map];omega) (fun c hc=>by
   obtain ⟨r,hr,rfl⟩:=List.mem_map.1 hc
   exact nice_small (n:=200) (by omega) _ (hG.nice r hr).nice) (by have:=ruls_acnts l hG.nice;omega)
  have hin:=ruls_in l
  unfold formsN at h2
  generalize Cond.atss (l.map Rul.c) []=A at h2 hin ⊢
  have hok3:A.length≤12→∀ r ∈ l,(r.c.form A).Ok:=fun h r hr=>form_ok (n:=200) (by omega) r.c (hG.nice r hr).nice (hin r hr)
  clear hin hG g1
  refine sem_intro (M:=fun t=>mem t [7,13,3000014,17,6000080,1000021,1000034,1000044]) hT hM Tryz.func7 inferInstance rfl rfl rfl rfl rfl rfl ?_
  repeat' (
   (conv=>whnf)
   first
    | ((try ((with_reducible first|apply NumE.go|apply IdxE.go|apply TextE.go|apply LookE.go|apply CallE.go);(conv=>whnf)));(with_reducible apply SideD.mk);(focus ((first|(intro hc;have hc0:=hc;(try simp only [SPLT] at hc);(try refine And.intro (by first|exact hc0|exact ⟨hc0,hc0⟩|exact ⟨hc0,hc0,hc0⟩) ?_))|skip);first|((try apply givesl);(focus (first|((apply gives_go (h1));(focus (exact DLes.au));(focus exact rfl);(all_goals (exact pre)))|((first|apply gives_go (checkRules_sem _ _)|apply gives_go (formulas_sem _ _ _ _)|apply gives_go (table_sem _ _ _ _)|apply gives_go (implied_sem _ _ _));(focus (exact DLes.au));(focus exact rfl);(all_goals (exact pre)))));(all_goals exact rfl))|exact sideG)))
    | ((with_reducible first|apply DrawR.go0|apply KerB.mk);(focus kernel_rfl))
    | (with_reducible first|apply ends_ret|apply ends_norm|apply Halt'.mk)
    | ((with_reducible apply CondD.mk)<;>intro hb<;>(try simp only [SPLT] at hb)<;>(try first|exact noB)))
  all_goals (try exact (false:Bool))
  refine loop_go (M:=fun t=>mem t [7,13,3000014,17,6000080,1000021,1000034,1000044]) hT hM (fun i:Nat => [(28,.int .i64 i),(5,.sl 1 6 (((l.take i).map Rul.c).map Cond.row))]) (fun i=>i≤l.length) (fun i=>l.length - i) (0) ?_ ?_ ?_
  ·(conv=>whnf)
   refine ⟨?_,by rfl⟩
   repeat' ((conv=>whnf);first|exact endF|exact endF2|with_reducible apply DLes.cons)
  ·exact Nat.zero_le _
  ·rintro i hi'
   have htl:(((l.take i).map Rul.c).map Cond.row).length≤1000:=by rw [List.length_map,List.length_map,List.length_take];omega
   have hta:(l.take i).length≤1000:=by rw [List.length_take];omega
   cases hx:l[i]? with
   | some r=>
    have hlt:=(List.getElem?_eq_some_iff.1 hx).1
    have htk:=take_at hx
    generalize l.take i=acc at htl hta htk ⊢
    obtain ⟨n,c⟩:=r
    obtain ⟨k1,ks1,p1,vs1,lo1,hi1⟩:=c
    repeat' (
     (conv=>whnf)
     first
      | ((try ((with_reducible first|apply NumE.go|apply IdxE.go|apply TextE.go|apply LookE.go|apply CallE.go);(conv=>whnf)));(with_reducible apply SideD.mk);(focus ((first|(intro hc;have hc0:=hc;(try simp only [SPLT] at hc);(try refine And.intro (by first|exact hc0|exact ⟨hc0,hc0⟩|exact ⟨hc0,hc0,hc0⟩) ?_))|skip);first|(exact idx_rul hx rfl)|((try apply givesl);(focus (((first|apply gives_go (checkRules_sem _ _)|apply gives_go (formulas_sem _ _ _ _)|apply gives_go (table_sem _ _ _ _)|apply gives_go (implied_sem _ _ _));(focus (exact DLes.au));(focus exact rfl);(all_goals (exact pre)))));(all_goals exact rfl))|exact sideG)))
      | ((with_reducible first|apply DrawR.go0|apply KerB.mk);(focus kernel_rfl))
      | (with_reducible first|apply ends_ret|apply ends_norm|apply Halt'.mk)
      | ((with_reducible apply CondD.mk)<;>intro hb<;>(try simp only [SPLT] at hb)<;>(try first|exact noB)))
    all_goals (try exact (false:Bool))
    refine ⟨i+1,by omega,by omega,?_⟩
    (conv=>whnf)
    refine ⟨?_,by rfl⟩
    repeat' ((conv=>whnf);first|exact endF|(exact DLe.of_eq (congrArg (D.sl 1 6) (by rw [htk,List.map_append,List.map_append,List.map_cons,List.map_nil,List.map_cons,List.map_nil,Cond.row_mk])))|exact endF2|with_reducible apply DLes.cons)
   | none=>
    have hm':=List.getElem?_eq_none_iff.1 hx
    rw [List.take_of_length_le hm']
    clear hx htl hta
    by_cases h12:12 < A.length
    ·rw [if_pos h12] at h2 ⊢
     repeat' (
      (conv=>whnf)
      first
       | ((try ((with_reducible first|apply NumE.go|apply IdxE.go|apply TextE.go|apply LookE.go|apply CallE.go);(conv=>whnf)));(with_reducible apply SideD.mk);(focus ((first|(intro hc;have hc0:=hc;(try simp only [SPLT] at hc);(try refine And.intro (by first|exact hc0|exact ⟨hc0,hc0⟩|exact ⟨hc0,hc0,hc0⟩) ?_))|skip);first|((try apply givesl);(focus (first|((apply gives_go (h2));(focus (exact DLes.au));(focus exact rfl);(all_goals (exact pre)))|((first|apply gives_go (checkRules_sem _ _)|apply gives_go (formulas_sem _ _ _ _)|apply gives_go (table_sem _ _ _ _)|apply gives_go (implied_sem _ _ _));(focus (exact DLes.au));(focus exact rfl);(all_goals (exact pre)))));(all_goals exact rfl))|exact sideG)))
       | ((with_reducible first|apply DrawR.go0|apply KerB.mk);(focus kernel_rfl))
       | (with_reducible first|apply ends_ret|apply ends_norm|apply Halt'.mk)
       | ((with_reducible apply CondD.mk)<;>intro hb<;>(try simp only [SPLT] at hb)<;>(try first|exact noB)))
     all_goals (try exact (false:Bool))
     repeat' ((conv=>whnf);first|exact endR|(with_reducible first|apply And.intro|apply endsO_ret|apply endsO_norm|apply DLes.cons))
     all_goals (conv=>whnf)
    ·rw [if_neg h12] at h2 ⊢
     have hok3:=hok3 (by omega)
     dsimp only at h2
     repeat' (
      (conv=>whnf)
      first
       | ((try ((with_reducible first|apply NumE.go|apply IdxE.go|apply TextE.go|apply LookE.go|apply CallE.go);(conv=>whnf)));(with_reducible apply SideD.mk);(focus ((first|(intro hc;have hc0:=hc;(try simp only [SPLT] at hc);(try refine And.intro (by first|exact hc0|exact ⟨hc0,hc0⟩|exact ⟨hc0,hc0,hc0⟩) ?_))|skip);first|((try apply givesl);(focus (first|((apply gives_go (h2));(focus (exact DLes.au));(focus exact rfl);(all_goals (exact pre)))|((first|apply gives_go (checkRules_sem _ _)|apply gives_go (formulas_sem _ _ _ _)|apply gives_go (table_sem _ _ _ _)|apply gives_go (implied_sem _ _ _));(focus (exact DLes.au));(focus exact rfl);(all_goals (exact pre)))));(all_goals exact rfl))|exact sideG)))
       | ((with_reducible first|apply DrawR.go0|apply KerB.mk);(focus kernel_rfl))
       | (with_reducible first|apply ends_ret|apply ends_norm|apply Halt'.mk)
       | ((with_reducible apply CondD.mk)<;>intro hb<;>(try simp only [SPLT] at hb)<;>(try first|exact noB)))
     all_goals (try exact (false:Bool))
     refine loop_go (M:=fun t=>mem t [7,13,3000014,17,6000080,1000021,1000034,1000044]) hT hM (fun i:Nat => [(49,.int .i64 i),(11,.sl 1 1 (((l.take i).map (tabC A)).map slR))]) (fun i=>i≤l.length) (fun i=>l.length - i) (0) ?_ ?_ ?_
     ·(conv=>whnf)
      refine ⟨?_,by rfl⟩
      repeat' ((conv=>whnf);first|exact endF|exact endF2|with_reducible apply DLes.cons)
     ·exact Nat.zero_le _
     ·rintro j hj
      have htl:(((l.take j).map (tabC A)).map slR).length≤1000:=by rw [List.length_map,List.length_map,List.length_take];omega
      have hta:(l.take j).length≤1000:=by rw [List.length_take];omega
      have hfl:(((l.map Rul.c).map (Cond.form A)).map Form.row).length=l.length:=by rw [List.length_map,List.length_map,List.length_map]
      cases hx:l[j]? with
      | some r=>
       have hlt:=(List.getElem?_eq_some_iff.1 hx).1
       have htk:=take_at hx
       have hy:((l.map Rul.c).map (Cond.form A))[j]?=some (r.c.form A):=by rw [List.getElem?_map,List.getElem?_map,hx];rfl
       have h4:Sem Tryz.prog 19 [.agg (r.c.form A).row,.int .i64 A.length] (.sl 0 1 ((tabC A r).map boR)):=(table_sem _ (hok3 r (List.mem_of_getElem? hx)) A.length (by omega)).frozen
       generalize l.take j=acc at htl hta htk ⊢
       generalize htr:tabC A r=tr at h4
       generalize r.c.form A=y at h4 hy
       obtain ⟨k3,a3,fs3⟩:=y
       rw [Form.row_mk] at h4
       repeat' (
        (conv=>whnf)
        first
         | ((try ((with_reducible first|apply NumE.go|apply IdxE.go|apply TextE.go|apply LookE.go|apply CallE.go);(conv=>whnf)));(with_reducible apply SideD.mk);(focus ((first|(intro hc;have hc0:=hc;(try simp only [SPLT] at hc);(try refine And.intro (by first|exact hc0|exact ⟨hc0,hc0⟩|exact ⟨hc0,hc0,hc0⟩) ?_))|skip);first|(exact idx_form hy rfl)|((try apply givesl);(focus (first|((apply gives_go (h4));(focus (exact DLes.au));(focus exact rfl);(all_goals (exact pre)))|((first|apply gives_go (checkRules_sem _ _)|apply gives_go (formulas_sem _ _ _ _)|apply gives_go (table_sem _ _ _ _)|apply gives_go (implied_sem _ _ _));(focus (exact DLes.au));(focus exact rfl);(all_goals (exact pre)))));(all_goals exact rfl))|exact sideG)))
         | ((with_reducible first|apply DrawR.go0|apply KerB.mk);(focus kernel_rfl))
         | (with_reducible first|apply ends_ret|apply ends_norm|apply Halt'.mk)
         | ((with_reducible apply CondD.mk)<;>intro hb<;>(try simp only [SPLT] at hb)<;>(try first|exact noB)))
       all_goals (try exact (false:Bool))
       refine ⟨j+1,by omega,by omega,?_⟩
       (conv=>whnf)
       refine ⟨?_,by rfl⟩
       repeat' ((conv=>whnf);first|exact endF|(exact DLe.of_eq (congrArg (D.sl 1 1) (by rw [htk,List.map_append,List.map_append,List.map_cons,List.map_nil,List.map_cons,List.map_nil,htr];rfl)))|exact endF2|with_reducible apply DLes.cons)
      | none=>
       have hm2:=List.getElem?_eq_none_iff.1 hx
       rw [List.take_of_length_le hm2]
       clear hx htl hta
       have htT:∀ k r,l[k]?=some r→(l.map (tabC A))[k]?=some (tabC A r):=fun k r h=>by rw [List.getElem?_map,h];rfl
       repeat' (
        (conv=>whnf)
        first
         | ((try ((with_reducible first|apply NumE.go|apply IdxE.go|apply TextE.go|apply LookE.go|apply CallE.go);(conv=>whnf)));(with_reducible apply SideD.mk);(focus ((first|(intro hc;have hc0:=hc;(try simp only [SPLT] at hc);(try refine And.intro (by first|exact hc0|exact ⟨hc0,hc0⟩|exact ⟨hc0,hc0,hc0⟩) ?_))|skip);first|((try apply givesl);(focus (((first|apply gives_go (checkRules_sem _ _)|apply gives_go (formulas_sem _ _ _ _)|apply gives_go (table_sem _ _ _ _)|apply gives_go (implied_sem _ _ _));(focus (exact DLes.au));(focus exact rfl);(all_goals (exact pre)))));(all_goals exact rfl))|exact sideG)))
         | ((with_reducible first|apply DrawR.go0|apply KerB.mk);(focus kernel_rfl))
         | (with_reducible first|apply ends_ret|apply ends_norm|apply Halt'.mk)
         | ((with_reducible apply CondD.mk)<;>intro hb<;>(try simp only [SPLT] at hb)<;>(try first|exact noB)))
       all_goals (try exact (false:Bool))
       refine ht_frzI [11] ?_
       conv=>whnf
       have hTl:((l.map (tabC A)).map slR).length=l.length:=by rw [List.length_map,List.length_map]
       have hzz:List.replicate ((l.length:Int)).toNat (zeroD [Value.bool false])=(goneTo l A 0).1.map boR:=by rw [goneTo,Int.toNat_natCast,List.map_replicate];rfl
       rw [← hll] at hzz
       refine loop_go (M:=fun t=>mem t [7,13,3000014,17,6000080,1000021,1000034,1000044]) hT hM (fun i:Nat => [(65,.int .i64 i),(14,.sl 2 1 ((goneTo l A i).1.map boR)),(15,.sl 1 1 ((goneTo l A i).2.map fun s => [.str s]))]) (fun i=>i≤l.length) (fun i=>l.length - i) (0) ?_ ?_ ?_
       ·(conv=>whnf)
        refine ⟨?_,by rfl⟩
        repeat' ((conv=>whnf);first|exact endF|(exact DLe.of_eq (congrArg (D.sl 2 1) hzz))|(exact dle_nil rfl)|exact endF2|with_reducible apply DLes.cons)
       ·exact Nat.zero_le _
       ·rintro i hi2
        obtain ⟨hgl,hol⟩:=gone_len (l:=l) (A:=A) i
        cases hx:l[i]? with
        | none=>
         have hm3:=List.getElem?_eq_none_iff.1 hx
         obtain rfl:i=l.length:=by omega
         repeat' (
          (conv=>whnf)
          first
           | ((try ((with_reducible first|apply NumE.go|apply IdxE.go|apply TextE.go|apply LookE.go|apply CallE.go);(conv=>whnf)));(with_reducible apply SideD.mk);(focus ((first|(intro hc;have hc0:=hc;(try simp only [SPLT] at hc);(try refine And.intro (by first|exact hc0|exact ⟨hc0,hc0⟩|exact ⟨hc0,hc0,hc0⟩) ?_))|skip);first|((try apply givesl);(focus (((first|apply gives_go (checkRules_sem _ _)|apply gives_go (formulas_sem _ _ _ _)|apply gives_go (table_sem _ _ _ _)|apply gives_go (implied_sem _ _ _));(focus (exact DLes.au));(focus exact rfl);(all_goals (exact pre)))));(all_goals exact rfl))|exact sideG)))
           | ((with_reducible first|apply DrawR.go0|apply KerB.mk);(focus kernel_rfl))
           | (with_reducible first|apply ends_ret|apply ends_norm|apply Halt'.mk)
           | ((with_reducible apply CondD.mk)<;>intro hb<;>(try simp only [SPLT] at hb)<;>(try first|exact noB)))
         all_goals (try exact (false:Bool))
         repeat' ((conv=>whnf);first|exact endR|(with_reducible first|apply And.intro|apply endsO_ret|apply endsO_norm|apply DLes.cons))
         all_goals (conv=>whnf)
        | some r=>
         have hlt:=(List.getElem?_eq_some_iff.1 hx).1
         have hnx:=gone_at A hx
         have hto:=htT i r hx
         have h5:Sem Tryz.prog 20 [.sl 0 1 ((tabC A r).map boR),.sl 0 1 (((othersTo l (goneTo l A i).1 i l.length).map fun a=>tabF (a.form A) A.length).map slR)] (.bool (follB (othersTo l (goneTo l A i).1 i l.length) r.c A)):=by
          rw [← imp_foll]
          refine implied_sem _ _ fun t ht => ?_
          obtain ⟨a,_,rfl⟩:=List.mem_map.1 ht
          unfold tabC
          rw [tabF_len,tabF_len]
         generalize goneTo l A i=G at hgl hol hnx h5 ⊢
         obtain ⟨g,out⟩:=G
         dsimp only at hgl hol hnx h5 ⊢
         have hgi:g[i]?=some (g[i]'(by omega)):=List.getElem?_eq_getElem (by omega)
         generalize g[i]'(by omega)=gi0 at hgi
         have hgm:(g.map boR).length=l.length:=by rw [List.length_map];exact hgl
         have hom:(out.map fun s => [D.str s]).length≤1000:=by rw [List.length_map];omega
         generalize follB (othersTo l g i l.length) r.c A=b5 at h5 hnx
         generalize tabC A r=tr at h5 hto
         obtain ⟨n,c⟩:=r
         dsimp only at hnx
         obtain ⟨k1,ks1,p1,vs1,lo1,hi1⟩:=c
         repeat' (
          (conv=>whnf)
          first
           | ((try ((with_reducible first|apply NumE.go|apply IdxE.go|apply TextE.go|apply LookE.go|apply CallE.go);(conv=>whnf)));(with_reducible apply SideD.mk);(focus ((first|(intro hc;have hc0:=hc;(try simp only [SPLT] at hc);(try refine And.intro (by first|exact hc0|exact ⟨hc0,hc0⟩|exact ⟨hc0,hc0,hc0⟩) ?_))|skip);first|(exact idx_rul hx rfl)|((try apply givesl);(focus (((first|apply gives_go (checkRules_sem _ _)|apply gives_go (formulas_sem _ _ _ _)|apply gives_go (table_sem _ _ _ _)|apply gives_go (implied_sem _ _ _));(focus (exact DLes.au));(focus exact rfl);(all_goals (exact pre)))));(all_goals exact rfl))|exact sideG)))
           | ((with_reducible first|apply DrawR.go0|apply KerB.mk);(focus kernel_rfl))
           | (with_reducible first|apply ends_ret|apply ends_norm|apply Halt'.mk)
           | ((with_reducible apply CondD.mk)<;>intro hb<;>(try simp only [SPLT] at hb)<;>(try first|exact noB)))
         all_goals (try exact (false:Bool))
         refine loop_go (M:=fun t=>mem t [7,13,3000014,17,6000080,1000021,1000034,1000044]) hT hM (fun k:Nat => [(72,.int .i64 k),(18,.sl 1 1 (((othersTo l g i k).map fun a=>tabF (a.form A) A.length).map slR))]) (fun k=>k≤l.length) (fun k=>l.length - k) (0) ?_ ?_ ?_
         ·(conv=>whnf)
          refine ⟨?_,by rfl⟩
          repeat' ((conv=>whnf);first|exact endF|(exact dle_nil rfl)|exact endF2|with_reducible apply DLes.cons)
         ·exact Nat.zero_le _
         ·rintro k hk
          have hol2:(((othersTo l g i k).map fun a=>tabF (a.form A) A.length).map slR).length≤1000:=by
           rw [List.length_map,List.length_map]
           have:=others_len (l:=l) (g:=g) (i:=i) k
           omega
          cases hz:l[k]? with
          | none=>
           have hm4:=List.getElem?_eq_none_iff.1 hz
           obtain rfl:k=l.length:=by omega
           repeat' (
            (conv=>whnf)
            first
             | ((try ((with_reducible first|apply NumE.go|apply IdxE.go|apply TextE.go|apply LookE.go|apply CallE.go);(conv=>whnf)));(with_reducible apply SideD.mk);(focus ((first|(intro hc;have hc0:=hc;(try simp only [SPLT] at hc);(try refine And.intro (by first|exact hc0|exact ⟨hc0,hc0⟩|exact ⟨hc0,hc0,hc0⟩) ?_))|skip);first|(exact idx_sl hto rfl)|(exact idx_bo hgi rfl)|(exact ⟨by omega,by rw [Int.toNat_natCast,List.getElem?_eq_getElem (by omega)]⟩)|(exact ⟨rfl,rfl,by show _+1≤1000000000;omega⟩)|((try apply givesl);(focus (first|((apply gives_go (h5));(focus (exact DLes.au));(focus exact rfl);(all_goals (exact pre)))|((first|apply gives_go (checkRules_sem _ _)|apply gives_go (formulas_sem _ _ _ _)|apply gives_go (table_sem _ _ _ _)|apply gives_go (implied_sem _ _ _));(focus (exact DLes.au));(focus exact rfl);(all_goals (exact pre)))));(all_goals exact rfl))|exact sideG)))
             | ((with_reducible first|apply DrawR.go0|apply KerB.mk);(focus kernel_rfl))
             | (with_reducible first|apply ends_ret|apply ends_norm|apply Halt'.mk)
             | ((with_reducible apply CondD.mk)<;>intro hb<;>(try simp only [SPLT] at hb)<;>(try first|exact noB)))
           all_goals (try exact (false:Bool))
           ·rename_i hb
            rw [if_pos hb] at hnx
            have hn1:(goneTo l A (i+1)).1=g.set i true:=by rw [hnx]
            have hn2:(goneTo l A (i+1)).2=out ++ [n]:=by rw [hnx]
            refine ⟨i+1,by omega,by omega,?_⟩
            (conv=>whnf)
            refine ⟨?_,by rfl⟩
            repeat' ((conv=>whnf);first|exact endF|(exact dle_sl (by rw [hn2,List.map_append];rfl))|(exact dle_sl (by rw [hn1,List.map_set];rfl))|exact endF2|with_reducible apply DLes.cons)
           ·rename_i hb
            rw [if_neg (by simp [hb])] at hnx
            have hn1:(goneTo l A (i+1)).1=g:=by rw [hnx]
            have hn2:(goneTo l A (i+1)).2=out:=by rw [hnx]
            refine ⟨i+1,by omega,by omega,?_⟩
            (conv=>whnf)
            refine ⟨?_,by rfl⟩
            repeat' ((conv=>whnf);first|exact endF|(exact dle_sl (by rw [hn2]))|(exact dle_sl (by rw [hn1]))|exact endF2|with_reducible apply DLes.cons)
          | some r2=>
           have hlk:=(List.getElem?_eq_some_iff.1 hz).1
           have htk:=htT k r2 hz
           have hgk:g[k]?=some (g.getD k false):=by rw [List.getD_eq_getElem?_getD,List.getElem?_eq_getElem (by omega)];rfl
           have hat:=others_at g i hz
           generalize g.getD k false=gk at hgk hat
           repeat' (
            (conv=>whnf)
            first
             | ((try ((with_reducible first|apply NumE.go|apply IdxE.go|apply TextE.go|apply LookE.go|apply CallE.go);(conv=>whnf)));(with_reducible apply SideD.mk);(focus ((first|(intro hc;have hc0:=hc;(try simp only [SPLT] at hc);(try refine And.intro (by first|exact hc0|exact ⟨hc0,hc0⟩|exact ⟨hc0,hc0,hc0⟩) ?_))|skip);first|(exact idx_sl htk rfl)|(exact idx_bo hgk rfl)|(exact ⟨rfl,rfl,by show _+1≤1000000000;omega⟩)|((try apply givesl);(focus (((first|apply gives_go (checkRules_sem _ _)|apply gives_go (formulas_sem _ _ _ _)|apply gives_go (table_sem _ _ _ _)|apply gives_go (implied_sem _ _ _));(focus (exact DLes.au));(focus exact rfl);(all_goals (exact pre)))));(all_goals exact rfl))|exact sideG)))
             | ((with_reducible first|apply DrawR.go0|apply KerB.mk);(focus kernel_rfl))
             | (with_reducible first|apply ends_ret|apply ends_norm|apply Halt'.mk)
             | ((with_reducible apply CondD.mk)<;>intro hb<;>(try simp only [SPLT] at hb)<;>(try first|exact noB|(omega;done))))
           all_goals (try exact (false:Bool))
           ·rename_i hb
            rw [if_pos ⟨by omega,hb.2⟩] at hat
            refine ⟨k+1,by omega,by omega,?_⟩
            (conv=>whnf)
            refine ⟨?_,by rfl⟩
            repeat' ((conv=>whnf);first|exact endF|(exact dle_sl (by rw [hat,List.map_append,List.map_append];rfl))|exact endF2|with_reducible apply DLes.cons)
           ·rename_i hb
            rw [if_neg (by rintro ⟨q1,q2⟩;rcases hb with hb|hb;omega;rw [q2] at hb;cases hb)] at hat
            refine ⟨k+1,by omega,by omega,?_⟩
            (conv=>whnf)
            refine ⟨?_,by rfl⟩
            repeat' ((conv=>whnf);first|exact endF|(exact dle_sl (by rw [hat]))|exact endF2|with_reducible apply DLes.cons)
           ·rw [if_neg (by rintro ⟨q1,q2⟩;omega)] at hat
            refine ⟨k+1,by omega,by omega,?_⟩
            (conv=>whnf)
            refine ⟨?_,by rfl⟩
            repeat' ((conv=>whnf);first|exact endF|(exact dle_sl (by rw [hat]))|exact endF2|with_reducible apply DLes.cons)
 ·rw [if_pos g1]
  generalize rulesN l=e1 at h1 g1 ⊢
  refine sem_intro (M:=fun t=>mem t [7,13,3000014,17,6000080,1000021,1000034,1000044]) hT hM Tryz.func7 inferInstance rfl rfl rfl rfl rfl rfl ?_
  repeat' (
   (conv=>whnf)
   first
    | ((try ((with_reducible first|apply NumE.go|apply IdxE.go|apply TextE.go|apply LookE.go|apply CallE.go);(conv=>whnf)));(with_reducible apply SideD.mk);(focus ((first|(intro hc;have hc0:=hc;(try simp only [SPLT] at hc);(try refine And.intro (by first|exact hc0|exact ⟨hc0,hc0⟩|exact ⟨hc0,hc0,hc0⟩) ?_))|skip);first|((try apply givesl);(focus (first|((apply gives_go (h1));(focus (exact DLes.au));(focus exact rfl);(all_goals (exact pre)))|((first|apply gives_go (checkRules_sem _ _)|apply gives_go (formulas_sem _ _ _ _)|apply gives_go (table_sem _ _ _ _)|apply gives_go (implied_sem _ _ _));(focus (exact DLes.au));(focus exact rfl);(all_goals (exact pre)))));(all_goals exact rfl))|exact sideG)))
    | ((with_reducible first|apply DrawR.go0|apply KerB.mk);(focus kernel_rfl))
    | (with_reducible first|apply ends_ret|apply ends_norm|apply Halt'.mk)
    | ((with_reducible apply CondD.mk)<;>intro hb<;>(try simp only [SPLT] at hb)<;>(try first|exact noB)))
  all_goals (try exact (false:Bool))
  repeat' ((conv=>whnf);first|exact endR|(with_reducible first|apply And.intro|apply endsO_ret|apply endsO_norm|apply DLes.cons))
  all_goals (conv=>whnf)
end Go.Proofs.YtnlbekongmkmjaaGreatDoor
namespace Go.Proofs.YtnlbekongmkmjaaGreatDoor
set_option linter.unusedSimpArgs false
set_option linter.unusedVariables false
open Go.RowKit
set_option maxRecDepth 100000
set_option maxHeartbeats 4000000
theorem atoms4N1_sem (c:Cond) (h:c.acnt≤100000):Sem Tryz.prog 21 [.nil,.agg c.row] (.sl 1 6 ((c.ats []).map Cond.row)):=
 (atoms4_sem c [] (by simpa using h)).weak (.cons (.nil 1 6) (.cons (.refl _) .nil))
end Go.Proofs.YtnlbekongmkmjaaGreatDoor
namespace Go.Proofs.YtnlbekongmkmjaaGreatDoor
set_option linter.unusedSimpArgs false
set_option linter.unusedVariables false
open Go.RowKit
set_option maxRecDepth 100000
set_option maxHeartbeats 4000000
theorem needless4_sem (l:List Rul) (hok:∀ r ∈ l,r.Ok):Sem Tryz.prog 8 [.sl 0 7 (l.map Rul.row)] (.tup [.sl 0 1 ((needlessN l).1.map fun s => [.str s]),.int .i64 (needlessN l).2]):=by
 have h1:=checkRules4_sem l hok
 have hll:(l.map Rul.row).length=l.length:=List.length_map _
 unfold needlessN
 by_cases g1:rulesN l=0
 ·have hG:=ruls_good hok g1
  have hfew:=hG.few
  have hev:=ruls_ev hG
  have hac:=ruls_acnts l hG.nice
  have hrise:=hG.rise
  rw [g1] at h1
  rw [if_neg (by simpa using g1)]
  generalize hA:Cond.atss (l.map Rul.c) []=A at hev ⊢
  clear g1 hG
  refine sem_intro (M:=fun t=>mem t [6000047,1000021,1000034,1000044]) hT hM Tryz.func8 inferInstance rfl rfl rfl rfl rfl rfl ?_
  repeat' (
   (conv=>whnf)
   first
    | ((try ((with_reducible first|apply NumE.go|apply IdxE.go|apply TextE.go|apply LookE.go|apply CallE.go);(conv=>whnf)));(with_reducible apply SideD.mk);(focus ((first|(intro hc;have hc0:=hc;(try simp only [SPLT] at hc);(try refine And.intro (by first|exact hc0|exact ⟨hc0,hc0⟩|exact ⟨hc0,hc0,hc0⟩) ?_))|skip);first|((try apply givesl);(focus (first|((apply gives_go (h1));(focus (exact DLes.au));(focus exact rfl);(all_goals (exact pre)))|((apply gives_go (atoms4N1_sem _ _));(focus (exact DLes.au));(focus exact rfl);(all_goals (exact pre)))|((first|apply gives_go (checkRules4_sem _ _)|apply gives_go (atoms4Nil_sem _ _)|apply gives_go (has4_sem _ _)|apply gives_go (follows4_sem _ _ _ _ _ _));(focus (exact DLes.au));(focus exact rfl);(all_goals (exact pre)))));(all_goals exact rfl))|exact sideG)))
    | ((with_reducible apply CallO.go);(conv=>whnf);(with_reducible apply SideD.mk);(focus (first|((apply giveso_go (atoms4O_sem _ _ _));(focus (first|exact rfl|(simp;done)));(focus (exact DLes.au));(focus exact rfl);(all_goals (exact pre))))))
    | ((with_reducible first|apply DrawR.go0|apply KerB.mk);(focus kernel_rfl))
    | (with_reducible first|apply ends_ret|apply ends_norm|apply Halt'.mk)
    | ((with_reducible apply CondD.mk)<;>intro hb<;>(try simp only [SPLT] at hb)<;>(try first|exact noB)))
  all_goals (try exact (false:Bool))
  refine loop_go (M:=fun t=>mem t [6000047,1000021,1000034,1000044]) hT hM (fun x:Nat × List Cond => [(6,.int .i64 x.1),(5,.sl 1 6 (x.2.map Cond.row))]) (fun x=>x.1≤l.length∧x.2.length+Cond.acnts ((l.map Rul.c).drop x.1)≤100000∧Cond.atss ((l.map Rul.c).drop x.1) x.2=A) (fun x=>l.length - x.1) ((0,[])) ?_ ?_ ?_
  ·(conv=>whnf)
   refine ⟨?_,by rfl⟩
   repeat' ((conv=>whnf);first|exact endF|(exact dle_nil rfl)|exact endF2|with_reducible apply DLes.cons)
  ·exact ⟨Nat.zero_le _,by simp;omega,by simpa using hA⟩
  ·rintro ⟨i,acc⟩ ⟨hi',hm,hv⟩
   dsimp only at hi' hm hv ⊢
   cases hx:l[i]? with
   | some r=>
    have hlt:=(List.getElem?_eq_some_iff.1 hx).1
    have hxc:(l.map Rul.c)[i]?=some r.c:=by rw [List.getElem?_map,hx];rfl
    rw [atss_at hxc] at hv
    rw [List.drop_eq_getElem_cons (List.getElem?_eq_some_iff.1 hxc).1,(List.getElem?_eq_some_iff.1 hxc).2,acnts_cons] at hm
    have h2:=atoms4O_sem r.c acc (by omega)
    have hl2:=ats_len r.c acc
    generalize r.c.ats acc=acc2 at h2 hv hl2
    obtain ⟨n,c⟩:=r
    dsimp only at h2 hl2 hm
    obtain ⟨k1,ks1,p1,vs1,lo1,hi1⟩:=c
    rw [Cond.row_mk] at h2
    repeat' (
     (conv=>whnf)
     first
      | ((try ((with_reducible first|apply NumE.go|apply IdxE.go|apply TextE.go|apply LookE.go|apply CallE.go);(conv=>whnf)));(with_reducible apply SideD.mk);(focus ((first|(intro hc;have hc0:=hc;(try simp only [SPLT] at hc);(try refine And.intro (by first|exact hc0|exact ⟨hc0,hc0⟩|exact ⟨hc0,hc0,hc0⟩) ?_))|skip);first|(exact idx_rul hx rfl)|((try apply givesl);(focus (first|((apply gives_go (atoms4N1_sem _ _));(focus (exact DLes.au));(focus exact rfl);(all_goals (exact pre)))|((first|apply gives_go (checkRules4_sem _ _)|apply gives_go (atoms4Nil_sem _ _)|apply gives_go (has4_sem _ _)|apply gives_go (follows4_sem _ _ _ _ _ _));(focus (exact DLes.au));(focus exact rfl);(all_goals (exact pre)))));(all_goals exact rfl))|exact sideG)))
      | ((with_reducible apply CallO.go);(conv=>whnf);(with_reducible apply SideD.mk);(focus (first|((apply giveso_go (h2));(focus (first|exact rfl|(simp;done)));(focus (exact DLes.au));(focus exact rfl);(all_goals (exact pre))))))
      | ((with_reducible first|apply DrawR.go0|apply KerB.mk);(focus kernel_rfl))
      | (with_reducible first|apply ends_ret|apply ends_norm|apply Halt'.mk)
      | ((with_reducible apply CondD.mk)<;>intro hb<;>(try simp only [SPLT] at hb)<;>(try first|exact noB)))
    all_goals (try exact (false:Bool))
    refine ⟨(i+1,acc2),⟨by dsimp only;omega,by dsimp only;omega,hv⟩,by dsimp only;omega,?_⟩
    (conv=>whnf)
    refine ⟨?_,by rfl⟩
    repeat' ((conv=>whnf);first|exact endF|exact endF2|with_reducible apply DLes.cons)
   | none=>
    have hm':=List.getElem?_eq_none_iff.1 hx
    rw [List.drop_of_length_le (by rw [List.length_map];exact hm'),atss_nil] at hv
    subst hv
    clear hx hm
    have hal:(acc.map Cond.row).length=acc.length:=List.length_map _
    by_cases h12:12 < acc.length
    ·rw [if_pos h12]
     repeat' (
      (conv=>whnf)
      first
       | ((try ((with_reducible first|apply NumE.go|apply IdxE.go|apply TextE.go|apply LookE.go|apply CallE.go);(conv=>whnf)));(with_reducible apply SideD.mk);(focus ((first|(intro hc;have hc0:=hc;(try simp only [SPLT] at hc);(try refine And.intro (by first|exact hc0|exact ⟨hc0,hc0⟩|exact ⟨hc0,hc0,hc0⟩) ?_))|skip);first|((try apply givesl);(focus (first|((apply gives_go (atoms4N1_sem _ _));(focus (exact DLes.au));(focus exact rfl);(all_goals (exact pre)))|((first|apply gives_go (checkRules4_sem _ _)|apply gives_go (atoms4Nil_sem _ _)|apply gives_go (has4_sem _ _)|apply gives_go (follows4_sem _ _ _ _ _ _));(focus (exact DLes.au));(focus exact rfl);(all_goals (exact pre)))));(all_goals exact rfl))|exact sideG)))
       | ((with_reducible apply CallO.go);(conv=>whnf);(with_reducible apply SideD.mk);(focus (first|((apply giveso_go (atoms4O_sem _ _ _));(focus (first|exact rfl|(simp;done)));(focus (exact DLes.au));(focus exact rfl);(all_goals (exact pre))))))
       | ((with_reducible first|apply DrawR.go0|apply KerB.mk);(focus kernel_rfl))
       | (with_reducible first|apply ends_ret|apply ends_norm|apply Halt'.mk)
       | ((with_reducible apply CondD.mk)<;>intro hb<;>(try simp only [SPLT] at hb)<;>(try first|exact noB)))
     all_goals (try exact (false:Bool))
     repeat' ((conv=>whnf);first|exact endR|(with_reducible first|apply And.intro|apply endsO_ret|apply endsO_norm|apply DLes.cons))
     all_goals (conv=>whnf)
    ·rw [if_neg h12]
     have hall:acc.length≤12:=by omega
     repeat' (
      (conv=>whnf)
      first
       | ((try ((with_reducible first|apply NumE.go|apply IdxE.go|apply TextE.go|apply LookE.go|apply CallE.go);(conv=>whnf)));(with_reducible apply SideD.mk);(focus ((first|(intro hc;have hc0:=hc;(try simp only [SPLT] at hc);(try refine And.intro (by first|exact hc0|exact ⟨hc0,hc0⟩|exact ⟨hc0,hc0,hc0⟩) ?_))|skip);first|((try apply givesl);(focus (first|((apply gives_go (atoms4N1_sem _ _));(focus (exact DLes.au));(focus exact rfl);(all_goals (exact pre)))|((first|apply gives_go (checkRules4_sem _ _)|apply gives_go (atoms4Nil_sem _ _)|apply gives_go (has4_sem _ _)|apply gives_go (follows4_sem _ _ _ _ _ _));(focus (exact DLes.au));(focus exact rfl);(all_goals (exact pre)))));(all_goals exact rfl))|exact sideG)))
       | ((with_reducible apply CallO.go);(conv=>whnf);(with_reducible apply SideD.mk);(focus (first|((apply giveso_go (atoms4O_sem _ _ _));(focus (first|exact rfl|(simp;done)));(focus (exact DLes.au));(focus exact rfl);(all_goals (exact pre))))))
       | ((with_reducible first|apply DrawR.go0|apply KerB.mk);(focus kernel_rfl))
       | (with_reducible first|apply ends_ret|apply ends_norm|apply Halt'.mk)
       | ((with_reducible apply CondD.mk)<;>intro hb<;>(try simp only [SPLT] at hb)<;>(try first|exact noB)))
     all_goals (try exact (false:Bool))
     refine ht_frzI [5] ?_
     conv=>whnf
     refine loop_go (M:=fun t=>mem t [6000047,1000021,1000034,1000044]) hT hM (fun i:Nat => [(8,.int .i64 i),(7,.sl 1 1 ((goneTo l acc i).2.map fun s => [.str s]))]) (fun i=>i≤l.length) (fun i=>l.length - i) (0) ?_ ?_ ?_
     ·(conv=>whnf)
      refine ⟨?_,by rfl⟩
      repeat' ((conv=>whnf);first|exact endF|(exact dle_nil rfl)|exact endF2|with_reducible apply DLes.cons)
     ·exact Nat.zero_le _
     ·rintro i hi2
      obtain ⟨hgl,hol⟩:=gone_len (l:=l) (A:=acc) i
      have hgh:=gone_has (A:=acc) hrise i
      cases hx:l[i]? with
      | none=>
       have hm3:=List.getElem?_eq_none_iff.1 hx
       obtain rfl:i=l.length:=by omega
       repeat' (
        (conv=>whnf)
        first
         | ((try ((with_reducible first|apply NumE.go|apply IdxE.go|apply TextE.go|apply LookE.go|apply CallE.go);(conv=>whnf)));(with_reducible apply SideD.mk);(focus ((first|(intro hc;have hc0:=hc;(try simp only [SPLT] at hc);(try refine And.intro (by first|exact hc0|exact ⟨hc0,hc0⟩|exact ⟨hc0,hc0,hc0⟩) ?_))|skip);first|((try apply givesl);(focus (first|((apply gives_go (atoms4N1_sem _ _));(focus (exact DLes.au));(focus exact rfl);(all_goals (exact pre)))|((first|apply gives_go (checkRules4_sem _ _)|apply gives_go (atoms4Nil_sem _ _)|apply gives_go (has4_sem _ _)|apply gives_go (follows4_sem _ _ _ _ _ _));(focus (exact DLes.au));(focus exact rfl);(all_goals (exact pre)))));(all_goals exact rfl))|exact sideG)))
         | ((with_reducible apply CallO.go);(conv=>whnf);(with_reducible apply SideD.mk);(focus (first|((apply giveso_go (atoms4O_sem _ _ _));(focus (first|exact rfl|(simp;done)));(focus (exact DLes.au));(focus exact rfl);(all_goals (exact pre))))))
         | ((with_reducible first|apply DrawR.go0|apply KerB.mk);(focus kernel_rfl))
         | (with_reducible first|apply ends_ret|apply ends_norm|apply Halt'.mk)
         | ((with_reducible apply CondD.mk)<;>intro hb<;>(try simp only [SPLT] at hb)<;>(try first|exact noB)))
       all_goals (try exact (false:Bool))
       repeat' ((conv=>whnf);first|exact endR|(with_reducible first|apply And.intro|apply endsO_ret|apply endsO_norm|apply DLes.cons))
       all_goals (conv=>whnf)
      | some r=>
       have hlt:=(List.getElem?_eq_some_iff.1 hx).1
       have hnx:=gone_at acc hx
       have h5:=follows4_sem (othersTo l (goneTo l acc i).1 i l.length) r.c acc hall (fun c hc=>by
        obtain ⟨r',hr',rfl⟩:=others_mem _ _ hc
        exact hev r' hr') (hev r (List.mem_of_getElem? hx))
       generalize goneTo l acc i=G at hgl hol hnx h5 hgh ⊢
       obtain ⟨g,out⟩:=G
       dsimp only at hgl hol hnx h5 hgh ⊢
       have hom:(out.map fun s => [D.str s]).length≤1000:=by rw [List.length_map];omega
       generalize follB (othersTo l g i l.length) r.c acc=b5 at h5 hnx
       obtain ⟨n,c⟩:=r
       dsimp only at hnx h5
       obtain ⟨k1,ks1,p1,vs1,lo1,hi1⟩:=c
       rw [Cond.row_mk] at h5
       repeat' (
        (conv=>whnf)
        first
         | ((try ((with_reducible first|apply NumE.go|apply IdxE.go|apply TextE.go|apply LookE.go|apply CallE.go);(conv=>whnf)));(with_reducible apply SideD.mk);(focus ((first|(intro hc;have hc0:=hc;(try simp only [SPLT] at hc);(try refine And.intro (by first|exact hc0|exact ⟨hc0,hc0⟩|exact ⟨hc0,hc0,hc0⟩) ?_))|skip);first|((try apply givesl);(focus (first|((apply gives_go (atoms4N1_sem _ _));(focus (exact DLes.au));(focus exact rfl);(all_goals (exact pre)))|((first|apply gives_go (checkRules4_sem _ _)|apply gives_go (atoms4Nil_sem _ _)|apply gives_go (has4_sem _ _)|apply gives_go (follows4_sem _ _ _ _ _ _));(focus (exact DLes.au));(focus exact rfl);(all_goals (exact pre)))));(all_goals exact rfl))|exact sideG)))
         | ((with_reducible apply CallO.go);(conv=>whnf);(with_reducible apply SideD.mk);(focus (first|((apply giveso_go (atoms4O_sem _ _ _));(focus (first|exact rfl|(simp;done)));(focus (exact DLes.au));(focus exact rfl);(all_goals (exact pre))))))
         | ((with_reducible first|apply DrawR.go0|apply KerB.mk);(focus kernel_rfl))
         | (with_reducible first|apply ends_ret|apply ends_norm|apply Halt'.mk)
         | ((with_reducible apply CondD.mk)<;>intro hb<;>(try simp only [SPLT] at hb)<;>(try first|exact noB)))
       all_goals (try exact (false:Bool))
       refine loop_go (M:=fun t=>mem t [6000047,1000021,1000034,1000044]) hT hM (fun k:Nat => [(10,.int .i64 k),(9,.sl 1 6 ((othersTo l g i k).map Cond.row))]) (fun k=>k≤l.length) (fun k=>l.length - k) (0) ?_ ?_ ?_
       ·(conv=>whnf)
        refine ⟨?_,by rfl⟩
        repeat' ((conv=>whnf);first|exact endF|(exact dle_nil rfl)|exact endF2|with_reducible apply DLes.cons)
       ·exact Nat.zero_le _
       ·rintro k hk
        have hol2:((othersTo l g i k).map Cond.row).length≤1000:=by
         rw [List.length_map]
         have:=others_len (l:=l) (g:=g) (i:=i) k
         omega
        cases hz:l[k]? with
        | none=>
         have hm4:=List.getElem?_eq_none_iff.1 hz
         obtain rfl:k=l.length:=by omega
         repeat' (
          (conv=>whnf)
          first
           | ((try ((with_reducible first|apply NumE.go|apply IdxE.go|apply TextE.go|apply LookE.go|apply CallE.go);(conv=>whnf)));(with_reducible apply SideD.mk);(focus ((first|(intro hc;have hc0:=hc;(try simp only [SPLT] at hc);(try refine And.intro (by first|exact hc0|exact ⟨hc0,hc0⟩|exact ⟨hc0,hc0,hc0⟩) ?_))|skip);first|(exact idx_rul hx rfl)|((try apply givesl);(focus (first|((apply gives_go (h5));(focus (exact DLes.au));(focus exact rfl);(all_goals (exact pre)))|((apply gives_go (atoms4N1_sem _ _));(focus (exact DLes.au));(focus exact rfl);(all_goals (exact pre)))|((first|apply gives_go (checkRules4_sem _ _)|apply gives_go (atoms4Nil_sem _ _)|apply gives_go (has4_sem _ _)|apply gives_go (follows4_sem _ _ _ _ _ _));(focus (exact DLes.au));(focus exact rfl);(all_goals (exact pre)))));(all_goals exact rfl))|exact sideG)))
           | ((with_reducible apply CallO.go);(conv=>whnf);(with_reducible apply SideD.mk);(focus (first|((apply giveso_go (atoms4O_sem _ _ _));(focus (first|exact rfl|(simp;done)));(focus (exact DLes.au));(focus exact rfl);(all_goals (exact pre))))))
           | ((with_reducible first|apply DrawR.go0|apply KerB.mk);(focus kernel_rfl))
           | (with_reducible first|apply ends_ret|apply ends_norm|apply Halt'.mk)
           | ((with_reducible apply CondD.mk)<;>intro hb<;>(try simp only [SPLT] at hb)<;>(try first|exact noB)))
         all_goals (try exact (false:Bool))
         ·rename_i hb
          rw [if_pos (by simpa using hb)] at hnx
          have hn2:(goneTo l acc (i+1)).2=out ++ [n]:=by rw [hnx]
          refine ⟨i+1,by omega,by omega,?_⟩
          (conv=>whnf)
          refine ⟨?_,by rfl⟩
          repeat' ((conv=>whnf);first|exact endF|(exact dle_sl (by rw [hn2,List.map_append];rfl))|exact endF2|with_reducible apply DLes.cons)
         ·rename_i hb
          rw [if_neg (by simpa using hb)] at hnx
          have hn2:(goneTo l acc (i+1)).2=out:=by rw [hnx]
          refine ⟨i+1,by omega,by omega,?_⟩
          (conv=>whnf)
          refine ⟨?_,by rfl⟩
          repeat' ((conv=>whnf);first|exact endF|(exact dle_sl (by rw [hn2]))|exact endF2|with_reducible apply DLes.cons)
        | some r2=>
         have hlk:=(List.getElem?_eq_some_iff.1 hz).1
         have hat:=others_at g i hz
         have h6:=has4_sem out r2.n
         rw [hgh k r2 hz] at h6
         generalize g.getD k false=gk at h6 hat
         obtain ⟨n2,c2⟩:=r2
         dsimp only at h6 hat
         obtain ⟨k2,ks2,p2,vs2,lo2,hi2⟩:=c2
         repeat' (
          (conv=>whnf)
          first
           | ((try ((with_reducible first|apply NumE.go|apply IdxE.go|apply TextE.go|apply LookE.go|apply CallE.go);(conv=>whnf)));(with_reducible apply SideD.mk);(focus ((first|(intro hc;have hc0:=hc;(try simp only [SPLT] at hc);(try refine And.intro (by first|exact hc0|exact ⟨hc0,hc0⟩|exact ⟨hc0,hc0,hc0⟩) ?_))|skip);first|(exact idx_rul hz rfl)|(exact ⟨rfl,rfl,by show _+1≤1000000000;omega⟩)|((try apply givesl);(focus (first|((apply gives_go (h6));(focus (exact DLes.au));(focus exact rfl);(all_goals (exact pre)))|((apply gives_go (atoms4N1_sem _ _));(focus (exact DLes.au));(focus exact rfl);(all_goals (exact pre)))|((first|apply gives_go (checkRules4_sem _ _)|apply gives_go (atoms4Nil_sem _ _)|apply gives_go (has4_sem _ _)|apply gives_go (follows4_sem _ _ _ _ _ _));(focus (exact DLes.au));(focus exact rfl);(all_goals (exact pre)))));(all_goals exact rfl))|exact sideG)))
           | ((with_reducible apply CallO.go);(conv=>whnf);(with_reducible apply SideD.mk);(focus (first|((apply giveso_go (atoms4O_sem _ _ _));(focus (first|exact rfl|(simp;done)));(focus (exact DLes.au));(focus exact rfl);(all_goals (exact pre))))))
           | ((with_reducible first|apply DrawR.go0|apply KerB.mk);(focus kernel_rfl))
           | (with_reducible first|apply ends_ret|apply ends_norm|apply Halt'.mk)
           | ((with_reducible apply CondD.mk)<;>intro hb<;>(try simp only [SPLT] at hb)<;>(try first|exact noB|(omega;done))))
         all_goals (try exact (false:Bool))
         ·rename_i hb
          rw [if_pos ⟨by omega,hb.2⟩] at hat
          refine ⟨k+1,by omega,by omega,?_⟩
          (conv=>whnf)
          refine ⟨?_,by rfl⟩
          repeat' ((conv=>whnf);first|exact endF|(exact dle_sl (by rw [hat,List.map_append,List.map_cons,List.map_nil,Cond.row_mk]))|exact endF2|with_reducible apply DLes.cons)
         ·rename_i hb
          rw [if_neg (by rintro ⟨q1,q2⟩;rcases hb with hb|hb;omega;rw [q2] at hb;cases hb)] at hat
          refine ⟨k+1,by omega,by omega,?_⟩
          (conv=>whnf)
          refine ⟨?_,by rfl⟩
          repeat' ((conv=>whnf);first|exact endF|(exact dle_sl (by rw [hat]))|exact endF2|with_reducible apply DLes.cons)
         ·rw [if_neg (by rintro ⟨q1,q2⟩;omega)] at hat
          refine ⟨k+1,by omega,by omega,?_⟩
          (conv=>whnf)
          refine ⟨?_,by rfl⟩
          repeat' ((conv=>whnf);first|exact endF|(exact dle_sl (by rw [hat]))|exact endF2|with_reducible apply DLes.cons)
 ·rw [if_pos g1]
  generalize rulesN l=e1 at h1 g1 ⊢
  refine sem_intro (M:=fun t=>mem t [6000047,1000021,1000034,1000044]) hT hM Tryz.func8 inferInstance rfl rfl rfl rfl rfl rfl ?_
  repeat' (
   (conv=>whnf)
   first
    | ((try ((with_reducible first|apply NumE.go|apply IdxE.go|apply TextE.go|apply LookE.go|apply CallE.go);(conv=>whnf)));(with_reducible apply SideD.mk);(focus ((first|(intro hc;have hc0:=hc;(try simp only [SPLT] at hc);(try refine And.intro (by first|exact hc0|exact ⟨hc0,hc0⟩|exact ⟨hc0,hc0,hc0⟩) ?_))|skip);first|((try apply givesl);(focus (first|((apply gives_go (h1));(focus (exact DLes.au));(focus exact rfl);(all_goals (exact pre)))|((apply gives_go (atoms4N1_sem _ _));(focus (exact DLes.au));(focus exact rfl);(all_goals (exact pre)))|((first|apply gives_go (checkRules4_sem _ _)|apply gives_go (atoms4Nil_sem _ _)|apply gives_go (has4_sem _ _)|apply gives_go (follows4_sem _ _ _ _ _ _));(focus (exact DLes.au));(focus exact rfl);(all_goals (exact pre)))));(all_goals exact rfl))|exact sideG)))
    | ((with_reducible apply CallO.go);(conv=>whnf);(with_reducible apply SideD.mk);(focus (first|((apply giveso_go (atoms4O_sem _ _ _));(focus (first|exact rfl|(simp;done)));(focus (exact DLes.au));(focus exact rfl);(all_goals (exact pre))))))
    | ((with_reducible first|apply DrawR.go0|apply KerB.mk);(focus kernel_rfl))
    | (with_reducible first|apply ends_ret|apply ends_norm|apply Halt'.mk)
    | ((with_reducible apply CondD.mk)<;>intro hb<;>(try simp only [SPLT] at hb)<;>(try first|exact noB)))
  all_goals (try exact (false:Bool))
  repeat' ((conv=>whnf);first|exact endR|(with_reducible first|apply And.intro|apply endsO_ret|apply endsO_norm|apply DLes.cons))
  all_goals (conv=>whnf)
theorem law22_sem (l:List Rul) (hok:∀ r ∈ l,r.Ok):Sem Tryz.prog 3 [.sl 0 7 (l.map Rul.row)] (.bool true):=by
 have h1:=needless_sem l hok
 have h2:=needless4_sem l hok
 have h3:=equalS_sem (needlessN l).1 (needlessN l).1
 have h7:=awake4_sem
 rw [decide_eq_true rfl] at h3
 generalize needlessN l=r at h1 h2 h3
 obtain ⟨a,e⟩:=r
 dsimp only at h1 h2 h3
 refine sem_intro (M:=fun t=>mem t [1000021,1000034,1000044]) hT hM Tryz.func3 inferInstance rfl rfl rfl rfl rfl rfl ?_
 repeat' (
  (conv=>whnf)
  first
   | ((try ((with_reducible first|apply NumE.go|apply IdxE.go|apply TextE.go|apply LookE.go|apply CallE.go);(conv=>whnf)));(with_reducible apply SideD.mk);(focus ((first|(intro hc;have hc0:=hc;(try simp only [SPLT] at hc);(try refine And.intro (by first|exact hc0|exact ⟨hc0,hc0⟩|exact ⟨hc0,hc0,hc0⟩) ?_))|skip);first|((try apply givesl);(focus (first|((apply gives_go (h1));(focus (exact DLes.au));(focus exact rfl);(all_goals (exact pre)))|((apply gives_go (h2));(focus (exact DLes.au));(focus exact rfl);(all_goals (exact pre)))|((apply gives_go (h3));(focus (exact DLes.au));(focus exact rfl);(all_goals (exact pre)))|((apply gives_go (h7));(focus (exact DLes.au));(focus exact rfl);(all_goals (exact pre)))|((first|apply gives_go (needless_sem _ _)|apply gives_go (needless4_sem _ _)|apply gives_go (equalS_sem _ _)|apply gives_go (awake4_sem ));(focus (exact DLes.au));(focus exact rfl);(all_goals (exact pre)))));(all_goals exact rfl))|exact sideG)))
   | ((with_reducible first|apply DrawR.go0|apply KerB.mk);(focus kernel_rfl))
   | (with_reducible first|apply ends_ret|apply ends_norm|apply Halt'.mk)
   | ((with_reducible apply CondD.mk)<;>intro hb<;>(try simp only [SPLT] at hb)<;>(try first|exact noB)))
 all_goals (try exact (false:Bool))
 repeat' ((conv=>whnf);first|exact endR|(with_reducible first|apply And.intro|apply endsO_ret|apply endsO_norm|apply DLes.cons))
 all_goals (conv=>whnf)
 exact rle_bool (by simp)
end Go.Proofs.YtnlbekongmkmjaaGreatDoor
