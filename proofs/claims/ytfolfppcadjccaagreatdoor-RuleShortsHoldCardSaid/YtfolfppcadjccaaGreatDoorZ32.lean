/- Short conditions: the program's (walk). -/
import Derived.Test.YtfolfppcadjccaaGreatDoorZ31
namespace Go.Proofs.YtfolfppcadjccaaGreatDoor
set_option linter.unusedSimpArgs false
set_option linter.unusedVariables false
open Go.RowKit
set_option maxRecDepth 100000
set_option maxHeartbeats 20000000
def idl45_5:List (List Bool) := [[false,false,false,false,false,false,false],[true,false,false,false,false,false,false],[false,false,true,false,false,false,false],[false,false,false,true,false,false,false],[true,true,false,false,false,false,false],[true,false,true,false,false,false,false],[true,false,false,true,false,false,false],[false,false,true,true,false,false,false],[false,false,false,true,true,false,false],[true,true,true,false,false,false,false],[true,true,false,true,false,false,false],[true,false,true,true,false,false,false],[true,false,false,true,true,false,false],[false,false,true,true,true,false,false],[true,true,true,true,false,false,false],[true,true,false,true,true,false,false],[true,false,true,true,true,false,false],[true,true,true,true,true,false,false],[true,true,true,true,true,true,false],[true,true,true,true,true,true,true]]
theorem headD_of7 {l:List Cond} {y:Cond} (h:l[0]?=some y):l.headD noneC=y:=by
 cases l with
 | nil=>simp at h
 | cons a t=>exact Option.some.inj h
theorem set_row {l:List Cond} {f:Cond→Cond} {i:Nat} {x:Cond} (h:l[i]?=some x):(((l.take i).map f++l.drop i).map Cond.row).set i (f x).row=((l.take (i+1)).map f++l.drop (i+1)).map Cond.row:=by
 have hlt:=(List.getElem?_eq_some_iff.1 h).1
 rw [List.drop_eq_getElem_cons hlt,(List.getElem?_eq_some_iff.1 h).2,take_at h,List.map_append,List.map_append,List.map_append,List.map_append,List.map_cons,List.map_cons,List.map_nil,List.map_cons,List.map_nil]
 rw [List.set_append_right _ _ (by simp;omega)]
 simp
 rw [show i - min i l.length=0 by omega]
 rfl
theorem acnts_sizes:∀ l:List Cond,(∀ x ∈ l,x.acnt≤x.size)→Cond.acnts l≤Cond.sizes l
 | [],_=>by rw [acnts_nil];exact Nat.zero_le _
 | x::l,h=>by
  have h1:=h x (by simp)
  have h2:=acnts_sizes l fun y hy=>h y (by simp [hy])
  rw [acnts_cons,sizes_cons]
  omega
theorem acnt_size (c:Cond):c.acnt≤c.size:=by
 induction c using Cond.ind with
 | h k ks p vs lo hi ih=>
  rw [acnt_mk,size_mk]
  split
  ·omega
  ·have:=acnts_sizes ks ih
   omega
theorem short_sem (c:Cond):c.Nice 200→c.size≤1000→Sem Tryz.prog 45 [.agg c.row] (.agg c.short.row):=by
 induction c using Cond.ind with
 | h k ks p vs lo hi ih=>
  intro hN hA
  have hN':=hN
  obtain ⟨h1,h2,hp,hv,hk,h4⟩:=hN'
  have hll:(ks.map Cond.row).length=ks.length:=List.length_map _
  have hshN:∀ x ∈ ks,x.short.Nice x.size:=fun x hx=>short_nice x 200 (h4 x hx)
  have hE:=short_mk k ks p vs lo hi
  generalize hS:(Cond.mk k ks p vs lo hi).short=R at hE ⊢
  rw [endC] at hE
  obtain ⟨k9,ks9,p9,vs9,lo9,hi9⟩:=R
  rw [Cond.row_mk,Cond.row_mk]
  refine sem_intro (M:=fun t=>mem t [1,4000001,2,4,5000005,1000051,1000088]) hT hM Tryz.func45 inferInstance rfl rfl rfl rfl rfl rfl ?_
  repeat' (
   (conv=>whnf)
   first
    | ((with_reducible apply DrawI.at 17 idl45_5);(focus exact rfl);(focus kernel_rfl))
    | with_reducible apply ExE.go
    | ((with_reducible apply EqF.mk);(focus exact rfl))
    | with_reducible apply AndI.mk
    | with_reducible exact trivial
    | ((try ((with_reducible first|apply NumE.go|apply IdxE.go|apply TextE.go|apply LookE.go|apply CallE.go);(conv=>whnf)));(with_reducible apply SideD.mk);(focus ((first|(intro hc;have hc0:=hc;(try simp only [SPLT] at hc);(try refine And.intro (by first|exact hc0|exact ⟨hc0,hc0⟩|exact ⟨hc0,hc0,hc0⟩) ?_))|skip);first|((try apply givesl);(focus (((apply gives_go (cloneC_sem ks (by omega)));(focus (exact DLes.au));(focus exact rfl);(all_goals (exact pre)))));(all_goals exact rfl))|exact sideG)))
    | ((with_reducible first|apply DrawR.go0|apply KerB.mk);(focus kernel_rfl))
    | (with_reducible first|apply ends_ret|apply ends_norm|apply Halt'.mk)
    | ((with_reducible apply CondD.mk)<;>intro hb<;>(try simp only [SPLT] at hb)<;>(try first|exact noB)))
  all_goals (try exact (false:Bool))
  refine loop_go (M:=fun t=>mem t [1,4000001,2,4,5000005,1000051,1000088]) hT hM (fun i:Nat => [(1,.obj [.int .i64 k,.sl 2 6 (((ks.take i).map Cond.short++ks.drop i).map Cond.row),.str p,.sl 0 1 (vs.map fun s => [.str s]),.int .i64 lo,.int .i64 hi]),(10,.alc 1 1),(12,.int .i64 i)]) (fun i=>i≤ks.length) (fun i=>ks.length - i) (0) ?_ ?_ ?_
  ·(conv=>whnf)
   refine ⟨?_,by rfl⟩
   repeat' ((conv=>whnf);first|exact endF|exact endF2|with_reducible apply DLes.cons)
  ·exact Nat.zero_le _
  ·rintro i hi1
   cases hx:ks[i]? with
   | none=>
    have hn:=List.getElem?_eq_none_iff.1 hx
    rw [List.take_of_length_le hn,List.drop_of_length_le hn,List.append_nil]
    clear hx hi1
    generalize hss:ks.map Cond.short=ss at hE
    have hsl:ss.length=ks.length:=by rw [← hss];simp
    have hrl:(ss.map Cond.row).length=ss.length:=List.length_map _
    by_cases hk3:k=3
    ·subst hk3
     obtain ⟨y,hy⟩:∃ y,ss[0]?=some y:=⟨ss[0]'(by have:=List.length_pos_iff.2 (hk (by omega));omega),by simp⟩
     have hyh:ss.headD noneC=y:=headD_of7 hy
     have hyk:y.kind=3→y.kids ≠ []:=fun e=>by
      have hm:=List.mem_of_getElem? hy
      rw [← hss] at hm
      obtain ⟨x,hx,rfl⟩:=List.mem_map.1 hm
      exact (nice_kids (hshN x hx)).2.2 (by omega)
     rw [hyh] at hE
     obtain ⟨k1,ks1,p1,vs1,lo1,hi1⟩:=y
     by_cases hk1:k1=3
     ·subst hk1
      rw [if_pos ⟨rfl,rfl⟩] at hE
      obtain ⟨z,hz⟩:∃ z,ks1[0]?=some z:=by
       have hz0:ks1 ≠ []:=hyk rfl
       cases ks1 with
       | nil=>exact absurd rfl hz0
       | cons z t=>exact ⟨z,rfl⟩
      have hzh:ks1.headD noneC=z:=headD_of7 hz
      replace hE:_=ks1.headD noneC:=hE
      rw [hzh] at hE
      subst hE
      repeat' (
       (conv=>whnf)
       first
        | ((with_reducible apply DrawI.at 17 idl45_5);(focus exact rfl);(focus kernel_rfl))
        | with_reducible apply ExE.go
        | ((with_reducible apply EqF.mk);(focus exact rfl))
        | with_reducible apply AndI.mk
        | with_reducible exact trivial
        | ((try ((with_reducible first|apply NumE.go|apply IdxE.go|apply TextE.go|apply LookE.go|apply CallE.go);(conv=>whnf)));(with_reducible apply SideD.mk);(focus ((first|(intro hc;have hc0:=hc;(try simp only [SPLT] at hc);(try refine And.intro (by first|exact hc0|exact ⟨hc0,hc0⟩|exact ⟨hc0,hc0,hc0⟩) ?_))|skip);first|(exact idx_row hy rfl)|(exact idx_row hz rfl)|((try apply givesl);(focus (((apply gives_go (cloneC_sem _ _));(focus (exact DLes.au));(focus exact rfl);(all_goals (exact pre)))));(all_goals exact rfl))|exact sideG)))
        | ((with_reducible first|apply DrawR.go0|apply KerB.mk);(focus kernel_rfl))
        | (with_reducible first|apply ends_ret|apply ends_norm|apply Halt'.mk)
        | ((with_reducible apply CondD.mk)<;>intro hb<;>(try simp only [SPLT] at hb)<;>(try first|exact noB)))
      all_goals (try exact (false:Bool))
      repeat' ((conv=>whnf);first|exact endR|(with_reducible first|apply And.intro|apply endsO_ret|apply endsO_norm|apply DLes.cons))
      all_goals (conv=>whnf)
      (first|refine rle_agg ?_|refine dle_agg ?_|skip)
      repeat' (first|exact endF|exact endF2|with_reducible apply DLes.cons|with_reducible apply dle_agg)
     ·rw [if_neg (fun h=>hk1 h.2),if_neg (by omega)] at hE
      cases hE
      repeat' (
       (conv=>whnf)
       first
        | ((with_reducible apply DrawI.at 17 idl45_5);(focus exact rfl);(focus kernel_rfl))
        | with_reducible apply ExE.go
        | ((with_reducible apply EqF.mk);(focus exact rfl))
        | with_reducible apply AndI.mk
        | with_reducible exact trivial
        | ((try ((with_reducible first|apply NumE.go|apply IdxE.go|apply TextE.go|apply LookE.go|apply CallE.go);(conv=>whnf)));(with_reducible apply SideD.mk);(focus ((first|(intro hc;have hc0:=hc;(try simp only [SPLT] at hc);(try refine And.intro (by first|exact hc0|exact ⟨hc0,hc0⟩|exact ⟨hc0,hc0,hc0⟩) ?_))|skip);first|(exact idx_row hy rfl)|((try apply givesl);(focus (((apply gives_go (cloneC_sem _ _));(focus (exact DLes.au));(focus exact rfl);(all_goals (exact pre)))));(all_goals exact rfl))|exact sideG)))
        | ((with_reducible first|apply DrawR.go0|apply KerB.mk);(focus kernel_rfl))
        | (with_reducible first|apply ends_ret|apply ends_norm|apply Halt'.mk)
        | ((with_reducible apply CondD.mk)<;>intro hb<;>(try simp only [SPLT] at hb)<;>(try first|exact noB)))
      all_goals (try exact (false:Bool))
      repeat' ((conv=>whnf);first|exact endR|(with_reducible first|apply And.intro|apply endsO_ret|apply endsO_norm|apply DLes.cons))
      all_goals (conv=>whnf)
      (first|refine rle_agg ?_|refine dle_agg ?_|skip)
      repeat' (first|exact endF|exact endF2|with_reducible apply DLes.cons|with_reducible apply dle_agg)
    ·rw [if_neg (fun h=>hk3 h.1)] at hE
     by_cases hk12:k=1∨k=2
     ·rw [if_pos hk12] at hE
      have hks:∀ x ∈ ks,x.short.acnt≤x.acnt:=fun x hx=>short_acnt x 200 (h4 x hx)
      have hne:ks ≠ []:=hk (by omega)
      obtain ⟨f1,f2,f3,f4⟩:=flat_ok hk12 (n:=Cond.sizes ks+1) ks hshN (by omega) [] (by simp)
      have g1:=flat_acnt hk12 (ks.map Cond.short) []
      have g2:=map_acnt ks hks
      have g3:=acnts_sizes ks fun x _=>acnt_size x
      rw [acnts_nil] at g1
      rw [size_mk] at hA
      rw [hss] at f1 f2 f3 f4 g1 g2
      have f4:=f4 hne
      have hsev:=several_sem k hk12 ss p vs lo hi (by omega) (fun y hy=>by
       rw [← hss] at hy
       obtain ⟨x,hx,rfl⟩:=List.mem_map.1 hy
       have:=(inner_nice hk12 (hshN x hx) (size_pos x)).2.1
       have:=mem_sizes hx
       omega) f4 (by rw [acnt_mk,if_neg (by rcases hk12 with rfl|rfl<;>decide)];omega) (ats_ne (n:=Cond.sizes ks+1) _ (.mk (by simp at f2;omega) h2 hp hv (fun _=>f4) f1) [])
      rw [← hE,Cond.row_mk,Cond.row_mk] at hsev
      repeat' (
       (conv=>whnf)
       first
        | ((with_reducible apply DrawI.at 17 idl45_5);(focus exact rfl);(focus kernel_rfl))
        | with_reducible apply ExE.go
        | ((with_reducible apply EqF.mk);(focus exact rfl))
        | with_reducible apply AndI.mk
        | with_reducible exact trivial
        | ((try ((with_reducible first|apply NumE.go|apply IdxE.go|apply TextE.go|apply LookE.go|apply CallE.go);(conv=>whnf)));(with_reducible apply SideD.mk);(focus ((first|(intro hc;have hc0:=hc;(try simp only [SPLT] at hc);(try refine And.intro (by first|exact hc0|exact ⟨hc0,hc0⟩|exact ⟨hc0,hc0,hc0⟩) ?_))|skip);first|(exact show 0≤_∧_=some [D.int .i64 0,D.sl 0 6 [],D.str [],D.sl 0 1 [],D.int .i64 0,D.int .i64 0] from absurd (by simpa using hc0) hk3)|((try apply givesl);(focus (first|((apply gives_go (hsev));(focus (exact DLes.au));(focus exact rfl);(all_goals (exact pre)))|((apply gives_go (cloneC_sem _ _));(focus (exact DLes.au));(focus exact rfl);(all_goals (exact pre)))));(all_goals exact rfl))|exact sideG)))
        | ((with_reducible first|apply DrawR.go0|apply KerB.mk);(focus kernel_rfl))
        | (with_reducible first|apply ends_ret|apply ends_norm|apply Halt'.mk)
        | ((with_reducible apply CondD.mk)<;>intro hb<;>(try simp only [SPLT] at hb)<;>(try first|exact noB)))
      all_goals (try exact (false:Bool))
      repeat' ((conv=>whnf);first|exact endR|(with_reducible first|apply And.intro|apply endsO_ret|apply endsO_norm|apply DLes.cons))
      all_goals (conv=>whnf)
     ·rw [if_neg hk12] at hE
      cases hE
      repeat' (
       (conv=>whnf)
       first
        | ((with_reducible apply DrawI.at 17 idl45_5);(focus exact rfl);(focus kernel_rfl))
        | with_reducible apply ExE.go
        | ((with_reducible apply EqF.mk);(focus exact rfl))
        | with_reducible apply AndI.mk
        | with_reducible exact trivial
        | ((try ((with_reducible first|apply NumE.go|apply IdxE.go|apply TextE.go|apply LookE.go|apply CallE.go);(conv=>whnf)));(with_reducible apply SideD.mk);(focus ((first|(intro hc;have hc0:=hc;(try simp only [SPLT] at hc);(try refine And.intro (by first|exact hc0|exact ⟨hc0,hc0⟩|exact ⟨hc0,hc0,hc0⟩) ?_))|skip);first|(exact show 0≤_∧_=some [D.int .i64 0,D.sl 0 6 [],D.str [],D.sl 0 1 [],D.int .i64 0,D.int .i64 0] from absurd (by simpa using hc0) hk3)|((try apply givesl);(focus (((apply gives_go (cloneC_sem _ _));(focus (exact DLes.au));(focus exact rfl);(all_goals (exact pre)))));(all_goals exact rfl))|exact sideG)))
        | ((with_reducible first|apply DrawR.go0|apply KerB.mk);(focus kernel_rfl))
        | (with_reducible first|apply ends_ret|apply ends_norm|apply Halt'.mk)
        | ((with_reducible apply CondD.mk)<;>intro hb<;>(try simp only [SPLT] at hb)<;>(try first|exact noB)))
      all_goals (try exact (false:Bool))
      repeat' ((conv=>whnf);first|exact endR|(with_reducible first|apply And.intro|apply endsO_ret|apply endsO_norm|apply DLes.cons))
      all_goals (conv=>whnf)
      (first|refine rle_agg ?_|refine dle_agg ?_|skip)
      repeat' (first|exact endF|exact endF2|with_reducible apply DLes.cons|with_reducible apply dle_agg)
   | some x=>
    have hxm:x ∈ ks:=List.mem_of_getElem? hx
    have hlt:=(List.getElem?_eq_some_iff.1 hx).1
    have hxA:x.size≤1000:=by have:=mem_sizes hxm;rw [size_mk] at hA;omega
    have ih':=ih x hxm (h4 x hxm) hxA
    have hx2:((ks.take i).map Cond.short++ks.drop i)[i]?=some x:=by
     rw [List.getElem?_append_right (by simp;omega)]
     simp
     rw [show i - min i ks.length=0 by omega,Nat.add_zero]
     exact hx
    have hset:=set_row (f:=Cond.short) hx
    generalize x.short=y at ih' hset
    obtain ⟨k1,ks1,p1,vs1,lo1,hi1⟩:=x
    obtain ⟨k2,ks2,p2,vs2,lo2,hi2⟩:=y
    rw [Cond.row_mk,Cond.row_mk] at ih'
    rw [Cond.row_mk] at hset
    repeat' (
     (conv=>whnf)
     first
      | ((with_reducible apply DrawI.at 17 idl45_5);(focus exact rfl);(focus kernel_rfl))
      | with_reducible apply ExE.go
      | ((with_reducible apply EqF.mk);(focus exact rfl))
      | with_reducible apply AndI.mk
      | with_reducible exact trivial
      | ((try ((with_reducible first|apply NumE.go|apply IdxE.go|apply TextE.go|apply LookE.go|apply CallE.go);(conv=>whnf)));(with_reducible apply SideD.mk);(focus ((first|(intro hc;have hc0:=hc;(try simp only [SPLT] at hc);(try refine And.intro (by first|exact hc0|exact ⟨hc0,hc0⟩|exact ⟨hc0,hc0,hc0⟩) ?_))|skip);first|(exact idx_row hx2 rfl)|((try apply givesl);(focus (first|((apply gives_go (ih'));(focus (exact DLes.au));(focus exact rfl);(all_goals (exact pre)))|((apply gives_go (cloneC_sem _ _));(focus (exact DLes.au));(focus exact rfl);(all_goals (exact pre)))));(all_goals exact rfl))|exact sideG)))
      | ((with_reducible first|apply DrawR.go0|apply KerB.mk);(focus kernel_rfl))
      | (with_reducible first|apply ends_ret|apply ends_norm|apply Halt'.mk)
      | ((with_reducible apply CondD.mk)<;>intro hb<;>(try simp only [SPLT] at hb)<;>(try first|exact noB)))
    all_goals (try exact (false:Bool))
    refine ⟨i+1,by omega,by omega,?_⟩
    (conv=>whnf)
    refine ⟨?_,by rfl⟩
    repeat' ((conv=>whnf);first|exact endF|(exact DLe.of_eq (congrArg (fun rs=>D.obj [D.int .i64 k,D.sl 2 6 rs,D.str p,D.sl 0 1 (vs.map fun s => [D.str s]),D.int .i64 lo,D.int .i64 hi]) hset))|exact endF2|with_reducible apply DLes.cons)
end Go.Proofs.YtfolfppcadjccaaGreatDoor
