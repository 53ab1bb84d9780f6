/- Short conditions: the program's All and Any (walk). -/
import Derived.Test.YtfolfppcadjccaaGreatDoorZ23
namespace Go.Proofs.YtfolfppcadjccaaGreatDoor
set_option linter.unusedSimpArgs false
set_option linter.unusedVariables false
open Go.RowKit
set_option maxRecDepth 100000
set_option maxHeartbeats 20000000
def idl87_21:List (List Bool) := [[false,false,false,false,false,false,false],[true,false,false,false,false,false,false],[false,true,false,false,false,false,false],[false,false,false,false,false,true,false],[true,true,false,false,false,false,false],[true,false,false,false,false,true,false],[false,true,true,false,false,false,false],[false,true,false,false,false,true,false],[true,true,true,false,false,false,false],[true,true,false,false,false,true,false],[false,true,true,false,false,true,false],[true,true,true,true,false,false,false],[true,true,true,false,false,true,false],[true,true,true,true,true,false,false],[true,true,true,true,false,true,false],[true,true,true,true,true,true,false],[true,true,true,true,true,true,true]]
theorem flat_at {k:Int} {l:List Cond} {i:Nat} {x:Cond} (h:l[i]?=some x) (acc:List Cond):flatC k (l.drop i) acc=flatC k (l.drop (i+1)) ((innerC k x).foldl addC acc):=by
 rw [List.drop_eq_getElem_cons (List.getElem?_eq_some_iff.1 h).1,(List.getElem?_eq_some_iff.1 h).2,flatC]
theorem fold_at {l:List Cond} {i:Nat} {x:Cond} (h:l[i]?=some x) (acc:List Cond):(l.drop i).foldl addC acc=(l.drop (i+1)).foldl addC (addC acc x):=by
 rw [List.drop_eq_getElem_cons (List.getElem?_eq_some_iff.1 h).1,(List.getElem?_eq_some_iff.1 h).2,List.foldl_cons]
theorem several_sem (k:Int) (hk:k=1∨k=2) (ks:List Cond) (p:Str) (vs:List Str) (lo hi:Int) (hn:ks.length≤1000) (hin:∀ x ∈ ks,(innerC k x).length≤1000) (hne:flatC k ks [] ≠ [])
  (hac:(Cond.mk k (flatC k ks []) p vs lo hi).acnt≤100000) (hat:(Cond.mk k (flatC k ks []) p vs lo hi).ats [] ≠ []):Sem Tryz.prog 87 [.agg (Cond.mk k ks p vs lo hi).row] (.agg (severalC k ks p vs lo hi).row):=by
 have hll:(ks.map Cond.row).length=ks.length:=List.length_map _
 have h1:=contra_sem (flatC k ks [])
 have h2:=atomsNil_sem _ hac
 generalize hR:severalC k ks p vs lo hi=R
 rw [severalC] at hR
 generalize hF:flatC k ks []=F at *
 rw [Cond.row_mk] at h2
 generalize (Cond.mk k F p vs lo hi).ats []=A at h2 hat hR
 generalize contraC F=cb at h1 hR
 obtain ⟨k9,ks9,p9,vs9,lo9,hi9⟩:=R
 rw [Cond.row_mk,Cond.row_mk]
 refine sem_intro (M:=fun t=>mem t [1,2,5,8,9,10,5000021,1000051,1000088]) hT hM Tryz.func87 inferInstance rfl rfl rfl rfl rfl rfl ?_
 repeat' (
  (conv=>whnf)
  first
   | ((with_reducible apply DrawI.at 59 idl87_21);(focus exact rfl);(focus kernel_rfl))
   | with_reducible apply ExE.go
   | ((with_reducible apply EqF.mk);(focus exact rfl))
   | with_reducible apply AndI.mk
   | with_reducible exact trivial
   | ((try ((with_reducible first|apply NumE.go|apply IdxE.go|apply TextE.go|apply LookE.go|apply CallE.go);(conv=>whnf)));(with_reducible apply SideD.mk);(focus (first|((try apply givesl);(focus (first|((apply gives_go (has_sem _ _));(focus (exact DLes.au));(focus exact rfl);(all_goals (exact pre)))|((first|apply gives_go (hasNil_sem _)|apply gives_go (contra_sem _)|apply gives_go (atomsNil_sem _ _)|apply gives_go (ruNotX_sem _ _ _ _ _ _)|apply gives_go (ruAnyX_sem _));(focus (exact DLes.au));(focus exact rfl);(all_goals (exact pre)))));(all_goals exact rfl))|exact side)))
   | ((with_reducible apply CallO.go);(conv=>whnf);(with_reducible apply SideD.mk);(focus (first|((apply giveso_go (atomsO_sem _ _ _));(focus (first|exact rfl|(simp;done)));(focus (exact DLes.au));(focus exact rfl);(all_goals (exact pre))))))
   | ((with_reducible first|apply DrawR.go0|apply KerB.mk);(focus kernel_rfl))
   | (with_reducible first|apply ends_ret|apply ends_norm|apply Halt'.mk)
   | ((with_reducible apply CondD.mk)<;>intro hb<;>(try simp only [SPLT] at hb)<;>(try first|exact noB)))
 all_goals (try exact (false:Bool))
 refine loop_go (M:=fun t=>mem t [1,2,5,8,9,10,5000021,1000051,1000088]) hT hM (fun x:Nat × List Cond => [(14,.int .i64 x.1),(3,.sl 1 6 (x.2.map Cond.row)),(1,.obj [.int .i64 k,.sl 0 6 (ks.map Cond.row),.str p,.sl 0 1 (vs.map fun s => [.str s]),.int .i64 lo,.int .i64 hi])]) (fun x=>x.1≤ks.length∧x.2.length≤x.1 * 1000∧flatC k (ks.drop x.1) x.2=F) (fun x=>ks.length - x.1) ((0,[])) ?_ ?_ ?_
 ·(conv=>whnf)
  refine ⟨?_,by rfl⟩
  repeat' ((conv=>whnf);first|exact endF|exact endF2|with_reducible apply DLes.cons)
 ·exact ⟨Nat.zero_le _,Nat.zero_le _,hF⟩
 ·rintro ⟨i,acc⟩ ⟨hi,hm,hv⟩
  dsimp only at hi hm hv ⊢
  have hacl:(acc.map Cond.row).length=acc.length:=List.length_map _
  cases hx:ks[i]? with
  | none=>
   have hm':=List.getElem?_eq_none_iff.1 hx
   rw [List.drop_of_length_le hm',flatC] at hv
   subst hv
   clear hx hF
   rw [severalE] at hR
   by_cases hl1:acc.length=1
   ·rw [if_pos hl1] at hR
    obtain ⟨x,rfl⟩:∃ x,acc = [x]:=by
     match acc,hl1 with
     | [x],_=>exact ⟨x,rfl⟩
    replace hR:x=_:=hR
    subst hR
    repeat' (
     (conv=>whnf)
     first
      | ((with_reducible apply DrawI.at 59 idl87_21);(focus exact rfl);(focus kernel_rfl))
      | with_reducible apply ExE.go
      | ((with_reducible apply EqF.mk);(focus exact rfl))
      | with_reducible apply AndI.mk
      | with_reducible exact trivial
      | ((try ((with_reducible first|apply NumE.go|apply IdxE.go|apply TextE.go|apply LookE.go|apply CallE.go);(conv=>whnf)));(with_reducible apply SideD.mk);(focus (first|(exact idx_row (l := [.mk k9 ks9 p9 vs9 lo9 hi9]) (j:=0) rfl rfl)|((try apply givesl);(focus (first|((apply gives_go (has_sem _ _));(focus (exact DLes.au));(focus exact rfl);(all_goals (exact pre)))|((first|apply gives_go (hasNil_sem _)|apply gives_go (contra_sem _)|apply gives_go (atomsNil_sem _ _)|apply gives_go (ruNotX_sem _ _ _ _ _ _)|apply gives_go (ruAnyX_sem _));(focus (exact DLes.au));(focus exact rfl);(all_goals (exact pre)))));(all_goals exact rfl))|exact side)))
      | ((with_reducible apply CallO.go);(conv=>whnf);(with_reducible apply SideD.mk);(focus (first|((apply giveso_go (atomsO_sem _ _ _));(focus (first|exact rfl|(simp;done)));(focus (exact DLes.au));(focus exact rfl);(all_goals (exact pre))))))
      | ((with_reducible first|apply DrawR.go0|apply KerB.mk);(focus kernel_rfl))
      | (with_reducible first|apply ends_ret|apply ends_norm|apply Halt'.mk)
      | ((with_reducible apply CondD.mk)<;>intro hb<;>(try simp only [SPLT] at hb)<;>(try first|exact noB)))
    all_goals (try exact (false:Bool))
    repeat' ((conv=>whnf);first|exact endR|(with_reducible first|apply And.intro|apply endsO_ret|apply endsO_norm|apply DLes.cons))
    all_goals (conv=>whnf)
    (first|refine rle_agg ?_|refine dle_agg ?_|skip)
    repeat' (first|exact endF|exact endF2|with_reducible apply DLes.cons|with_reducible apply dle_agg)
   ·rw [if_neg hl1] at hR
    cases cb with
    | false=>
     rw [if_pos rfl] at hR
     cases hR
     repeat' (
      (conv=>whnf)
      first
       | ((with_reducible apply DrawI.at 59 idl87_21);(focus exact rfl);(focus kernel_rfl))
       | with_reducible apply ExE.go
       | ((with_reducible apply EqF.mk);(focus exact rfl))
       | with_reducible apply AndI.mk
       | with_reducible exact trivial
       | ((try ((with_reducible first|apply NumE.go|apply IdxE.go|apply TextE.go|apply LookE.go|apply CallE.go);(conv=>whnf)));(with_reducible apply SideD.mk);(focus (first|((try apply givesl);(focus (first|((apply gives_go (h1));(focus (exact DLes.au));(focus exact rfl);(all_goals (exact pre)))|((apply gives_go (has_sem _ _));(focus (exact DLes.au));(focus exact rfl);(all_goals (exact pre)))|((first|apply gives_go (hasNil_sem _)|apply gives_go (contra_sem _)|apply gives_go (atomsNil_sem _ _)|apply gives_go (ruNotX_sem _ _ _ _ _ _)|apply gives_go (ruAnyX_sem _));(focus (exact DLes.au));(focus exact rfl);(all_goals (exact pre)))));(all_goals exact rfl))|exact side)))
       | ((with_reducible apply CallO.go);(conv=>whnf);(with_reducible apply SideD.mk);(focus (first|((apply giveso_go (atomsO_sem _ _ _));(focus (first|exact rfl|(simp;done)));(focus (exact DLes.au));(focus exact rfl);(all_goals (exact pre))))))
       | ((with_reducible first|apply DrawR.go0|apply KerB.mk);(focus kernel_rfl))
       | (with_reducible first|apply ends_ret|apply ends_norm|apply Halt'.mk)
       | ((with_reducible apply CondD.mk)<;>intro hb<;>(try simp only [SPLT] at hb)<;>(try first|exact noB)))
     all_goals (try exact (false:Bool))
     repeat' ((conv=>whnf);first|exact endR|(with_reducible first|apply And.intro|apply endsO_ret|apply endsO_norm|apply DLes.cons))
     all_goals (conv=>whnf)
     (first|refine rle_agg ?_|refine dle_agg ?_|skip)
     repeat' (first|exact endF|exact endF2|with_reducible apply DLes.cons|with_reducible apply dle_agg)
    | true=>
     rw [if_neg (by simp)] at hR
     obtain ⟨a,ha⟩:∃ a,A[0]?=some a:=⟨A[0]'(List.length_pos_iff.2 hat),by simp⟩
     have hah:A.headD noneC=a:=by rw [← List.head?_eq_getElem?] at ha;simp [List.headD_eq_head?_getD,ha]
     rw [hah] at hR
     obtain ⟨k2,ks2,p2,vs2,lo2,hi2⟩:=a
     have e:∀ c,c=Cond.mk k9 ks9 p9 vs9 lo9 hi9→c.row = [.int .i64 k9,.sl 0 6 (ks9.map Cond.row),.str p9,.sl 0 1 (vs9.map fun s => [.str s]),.int .i64 lo9,.int .i64 hi9]:=fun c h=>by rw [h,Cond.row_mk]
     have hR:=(e _ hR).symm
     rw [hR]
     clear e hR
     repeat' (
      (conv=>whnf)
      first
       | ((with_reducible apply DrawI.at 59 idl87_21);(focus exact rfl);(focus kernel_rfl))
       | with_reducible apply ExE.go
       | ((with_reducible apply EqF.mk);(focus exact rfl))
       | with_reducible apply AndI.mk
       | with_reducible exact trivial
       | ((try ((with_reducible first|apply NumE.go|apply IdxE.go|apply TextE.go|apply LookE.go|apply CallE.go);(conv=>whnf)));(with_reducible apply SideD.mk);(focus (first|(exact idx_row ha rfl)|((try apply givesl);(focus (first|((apply gives_go (h1));(focus (exact DLes.au));(focus exact rfl);(all_goals (exact pre)))|((apply gives_go (h2));(focus (exact DLes.au));(focus exact rfl);(all_goals (exact pre)))|((apply gives_go (has_sem _ _));(focus (exact DLes.au));(focus exact rfl);(all_goals (exact pre)))|((first|apply gives_go (hasNil_sem _)|apply gives_go (contra_sem _)|apply gives_go (atomsNil_sem _ _)|apply gives_go (ruNotX_sem _ _ _ _ _ _)|apply gives_go (ruAnyX_sem _));(focus (exact DLes.au));(focus exact rfl);(all_goals (exact pre)))));(all_goals exact rfl))|exact side)))
       | ((with_reducible apply CallO.go);(conv=>whnf);(with_reducible apply SideD.mk);(focus (first|((apply giveso_go (atomsO_sem _ _ _));(focus (first|exact rfl|(simp;done)));(focus (exact DLes.au));(focus exact rfl);(all_goals (exact pre))))))
       | ((with_reducible first|apply DrawR.go0|apply KerB.mk);(focus kernel_rfl))
       | (with_reducible first|apply ends_ret|apply ends_norm|apply Halt'.mk)
       | ((with_reducible apply CondD.mk)<;>intro hb<;>(try simp only [SPLT] at hb)<;>(try first|exact noB)))
     all_goals (try exact (false:Bool))
     ·repeat' ((conv=>whnf);first|exact endR|(with_reducible first|apply And.intro|apply endsO_ret|apply endsO_norm|apply DLes.cons))
      all_goals (conv=>whnf)
      rw [if_pos (by omega)]
      simp only [anyC,notC,Cond.row_mk,List.map_cons,List.map_nil]
      exact rle_refl
     ·repeat' ((conv=>whnf);first|exact endR|(with_reducible first|apply And.intro|apply endsO_ret|apply endsO_norm|apply DLes.cons))
      all_goals (conv=>whnf)
      rw [if_neg (by omega)]
      simp only [anyC,notC,Cond.row_mk,List.map_cons,List.map_nil]
      exact rle_refl
  | some x=>
   have hlt:=(List.getElem?_eq_some_iff.1 hx).1
   rw [flat_at hx] at hv
   have hil:=hin x (List.mem_of_getElem? hx)
   generalize hG:(innerC k x).foldl addC acc=G at hv
   unfold innerC at hG hil
   have hxr:=Cond.row_mk
   obtain ⟨k1,ks1,p1,vs1,lo1,hi1⟩:=x
   have hl1:(ks1.map Cond.row).length=ks1.length:=List.length_map _
   repeat' (
    (conv=>whnf)
    first
     | ((with_reducible apply DrawI.at 59 idl87_21);(focus exact rfl);(focus kernel_rfl))
     | with_reducible apply ExE.go
     | ((with_reducible apply EqF.mk);(focus exact rfl))
     | with_reducible apply AndI.mk
     | with_reducible exact trivial
     | ((try ((with_reducible first|apply NumE.go|apply IdxE.go|apply TextE.go|apply LookE.go|apply CallE.go);(conv=>whnf)));(with_reducible apply SideD.mk);(focus (first|(exact idx_row hx rfl)|((try apply givesl);(focus (first|((apply gives_go (has_sem _ _));(focus (exact DLes.au));(focus exact rfl);(all_goals (exact pre)))|((first|apply gives_go (hasNil_sem _)|apply gives_go (contra_sem _)|apply gives_go (atomsNil_sem _ _)|apply gives_go (ruNotX_sem _ _ _ _ _ _)|apply gives_go (ruAnyX_sem _));(focus (exact DLes.au));(focus exact rfl);(all_goals (exact pre)))));(all_goals exact rfl))|exact side)))
     | ((with_reducible apply CallO.go);(conv=>whnf);(with_reducible apply SideD.mk);(focus (first|((apply giveso_go (atomsO_sem _ _ _));(focus (first|exact rfl|(simp;done)));(focus (exact DLes.au));(focus exact rfl);(all_goals (exact pre))))))
     | ((with_reducible first|apply DrawR.go0|apply KerB.mk);(focus kernel_rfl))
     | (with_reducible first|apply ends_ret|apply ends_norm|apply Halt'.mk)
     | ((with_reducible apply CondD.mk)<;>intro hb<;>(try simp only [SPLT] at hb)<;>(try first|exact noB)))
   all_goals (try exact (false:Bool))
   ·have hkk:k1=k:=by omega
    rw [if_pos (show Cond.kind (.mk k1 ks1 p1 vs1 lo1 hi1)=k from hkk)] at hG hil
    have hG:ks1.foldl addC acc=G:=hG
    have hil:ks1.length≤1000:=hil
    refine loop_go (M:=fun t=>mem t [1,2,5,8,9,10,5000021,1000051,1000088]) hT hM (fun y:Nat × List Cond => [(29,.int .i64 y.1),(3,.sl 1 6 (y.2.map Cond.row))]) (fun y=>y.1≤ks1.length∧y.2.length≤i * 1000+y.1∧(ks1.drop y.1).foldl addC y.2=G) (fun y=>ks1.length - y.1) ((0,acc)) ?_ ?_ ?_
    ·(conv=>whnf)
     refine ⟨?_,by rfl⟩
     repeat' ((conv=>whnf);first|exact endF|exact endF2|with_reducible apply DLes.cons)
    ·exact ⟨Nat.zero_le _,by omega,hG⟩
    ·rintro ⟨j,acc1⟩ ⟨hj,hm1,hv1⟩
     dsimp only at hj hm1 hv1 ⊢
     have hacl1:(acc1.map Cond.row).length=acc1.length:=List.length_map _
     cases hy:ks1[j]? with
     | none=>
      have hm':=List.getElem?_eq_none_iff.1 hy
      rw [List.drop_of_length_le hm',List.foldl_nil] at hv1
      subst hv1
      repeat' (
       (conv=>whnf)
       first
        | ((with_reducible apply DrawI.at 59 idl87_21);(focus exact rfl);(focus kernel_rfl))
        | with_reducible apply ExE.go
        | ((with_reducible apply EqF.mk);(focus exact rfl))
        | with_reducible apply AndI.mk
        | with_reducible exact trivial
        | ((try ((with_reducible first|apply NumE.go|apply IdxE.go|apply TextE.go|apply LookE.go|apply CallE.go);(conv=>whnf)));(with_reducible apply SideD.mk);(focus (first|((try apply givesl);(focus (first|((apply gives_go (has_sem _ _));(focus (exact DLes.au));(focus exact rfl);(all_goals (exact pre)))|((first|apply gives_go (hasNil_sem _)|apply gives_go (contra_sem _)|apply gives_go (atomsNil_sem _ _)|apply gives_go (ruNotX_sem _ _ _ _ _ _)|apply gives_go (ruAnyX_sem _));(focus (exact DLes.au));(focus exact rfl);(all_goals (exact pre)))));(all_goals exact rfl))|exact side)))
        | ((with_reducible apply CallO.go);(conv=>whnf);(with_reducible apply SideD.mk);(focus (first|((apply giveso_go (atomsO_sem _ _ _));(focus (first|exact rfl|(simp;done)));(focus (exact DLes.au));(focus exact rfl);(all_goals (exact pre))))))
        | ((with_reducible first|apply DrawR.go0|apply KerB.mk);(focus kernel_rfl))
        | (with_reducible first|apply ends_ret|apply ends_norm|apply Halt'.mk)
        | ((with_reducible apply CondD.mk)<;>intro hb<;>(try simp only [SPLT] at hb)<;>(try first|exact noB)))
      all_goals (try exact (false:Bool))
      refine ⟨(i+1,acc1),⟨by dsimp only;omega,by dsimp only;omega,hv⟩,by dsimp only;omega,?_⟩
      (conv=>whnf)
      refine ⟨?_,by rfl⟩
      repeat' ((conv=>whnf);first|exact endF|exact endF2|with_reducible apply DLes.cons)
     | some y=>
      have hltj:=(List.getElem?_eq_some_iff.1 hy).1
      rw [fold_at hy] at hv1
      have hh:=has_sem acc1 y
      have hadd:addC acc1 y=if hasC acc1 y=true then acc1 else acc1 ++ [y]:=rfl
      generalize addC acc1 y=acc2 at hv1 hadd
      generalize hasC acc1 y=b at hh hadd
      have hyr:y.row=y.row:=rfl
      obtain ⟨k2,ks2,p2,vs2,lo2,hi2⟩:=y
      rw [Cond.row_mk] at hh
      repeat' (
       (conv=>whnf)
       first
        | ((with_reducible apply DrawI.at 59 idl87_21);(focus exact rfl);(focus kernel_rfl))
        | with_reducible apply ExE.go
        | ((with_reducible apply EqF.mk);(focus exact rfl))
        | with_reducible apply AndI.mk
        | with_reducible exact trivial
        | ((try ((with_reducible first|apply NumE.go|apply IdxE.go|apply TextE.go|apply LookE.go|apply CallE.go);(conv=>whnf)));(with_reducible apply SideD.mk);(focus (first|(exact idx_row hy rfl)|((try apply givesl);(focus (first|((apply gives_go (hh));(focus (exact DLes.au));(focus exact rfl);(all_goals (exact pre)))|((apply gives_go (has_sem _ _));(focus (exact DLes.au));(focus exact rfl);(all_goals (exact pre)))|((first|apply gives_go (hasNil_sem _)|apply gives_go (contra_sem _)|apply gives_go (atomsNil_sem _ _)|apply gives_go (ruNotX_sem _ _ _ _ _ _)|apply gives_go (ruAnyX_sem _));(focus (exact DLes.au));(focus exact rfl);(all_goals (exact pre)))));(all_goals exact rfl))|exact side)))
        | ((with_reducible apply CallO.go);(conv=>whnf);(with_reducible apply SideD.mk);(focus (first|((apply giveso_go (atomsO_sem _ _ _));(focus (first|exact rfl|(simp;done)));(focus (exact DLes.au));(focus exact rfl);(all_goals (exact pre))))))
        | ((with_reducible first|apply DrawR.go0|apply KerB.mk);(focus kernel_rfl))
        | (with_reducible first|apply ends_ret|apply ends_norm|apply Halt'.mk)
        | ((with_reducible apply CondD.mk)<;>intro hb<;>(try simp only [SPLT] at hb)<;>(try first|exact noB)))
      all_goals (try exact (false:Bool))
      ·rw [if_neg (by simp_all)] at hadd
       subst hadd
       refine ⟨(j+1,_),⟨by dsimp only;omega,by simp;omega,hv1⟩,by dsimp only;omega,?_⟩
       (conv=>whnf)
       refine ⟨?_,by rfl⟩
       repeat' ((conv=>whnf);first|exact endF|(exact dle_sl (by rw [List.map_append,List.map_cons,List.map_nil,Cond.row_mk]))|exact endF2|with_reducible apply DLes.cons)
      ·rw [if_pos (by simp_all)] at hadd
       subst hadd
       refine ⟨(j+1,_),⟨by dsimp only;omega,by dsimp only;omega,hv1⟩,by dsimp only;omega,?_⟩
       (conv=>whnf)
       refine ⟨?_,by rfl⟩
       repeat' ((conv=>whnf);first|exact endF|exact endF2|with_reducible apply DLes.cons)
   ·have hkk:k1 ≠ k:=by omega
    rw [if_neg (show ¬ Cond.kind (.mk k1 ks1 p1 vs1 lo1 hi1)=k from hkk)] at hG hil
    rw [List.foldl_cons,List.foldl_nil] at hG
    refine ht_down [6] ?_
    conv=>whnf
    refine loop_go (M:=fun t=>mem t [1,2,5,8,9,10,5000021,1000051,1000088]) hT hM (fun y:Nat × List Cond => [(29,.int .i64 y.1),(3,.sl 1 6 (y.2.map Cond.row))]) (fun y=>y.1≤1∧y.2.length≤i * 1000+y.1∧(y.1=0→y.2=acc)∧(y.1=1→y.2=G)) (fun y=>1 - y.1) ((0,acc)) ?_ ?_ ?_
    ·(conv=>whnf)
     refine ⟨?_,by rfl⟩
     repeat' ((conv=>whnf);first|exact endF|exact endF2|with_reducible apply DLes.cons)
    ·exact ⟨Nat.zero_le _,by omega,fun _=>rfl,by simp⟩
    ·rintro ⟨j,acc1⟩ ⟨hj,hm1,hv0,hv1⟩
     dsimp only at hj hm1 hv0 hv1 ⊢
     have hacl1:(acc1.map Cond.row).length=acc1.length:=List.length_map _
     rcases Nat.lt_or_ge j 1 with hj0|hj0
     ·obtain rfl:j=0:=by omega
      obtain rfl:=hv0 rfl
      have hh:=has_sem acc1 (.mk k1 ks1 p1 vs1 lo1 hi1)
      have hadd:addC acc1 (.mk k1 ks1 p1 vs1 lo1 hi1)=if hasC acc1 (.mk k1 ks1 p1 vs1 lo1 hi1)=true then acc1 else acc1 ++ [.mk k1 ks1 p1 vs1 lo1 hi1]:=rfl
      rw [hG] at hadd
      generalize hasC acc1 (.mk k1 ks1 p1 vs1 lo1 hi1)=b at hh hadd
      rw [Cond.row_mk] at hh
      repeat' (
       (conv=>whnf)
       first
        | ((with_reducible apply DrawI.at 59 idl87_21);(focus exact rfl);(focus kernel_rfl))
        | with_reducible apply ExE.go
        | ((with_reducible apply EqF.mk);(focus exact rfl))
        | with_reducible apply AndI.mk
        | with_reducible exact trivial
        | ((try ((with_reducible first|apply NumE.go|apply IdxE.go|apply TextE.go|apply LookE.go|apply CallE.go);(conv=>whnf)));(with_reducible apply SideD.mk);(focus (first|(exact ⟨by omega,rfl⟩)|((try apply givesl);(focus (first|((apply gives_go (hh));(focus (exact DLes.au));(focus exact rfl);(all_goals (exact pre)))|((apply gives_go (has_sem _ _));(focus (exact DLes.au));(focus exact rfl);(all_goals (exact pre)))|((first|apply gives_go (hasNil_sem _)|apply gives_go (contra_sem _)|apply gives_go (atomsNil_sem _ _)|apply gives_go (ruNotX_sem _ _ _ _ _ _)|apply gives_go (ruAnyX_sem _));(focus (exact DLes.au));(focus exact rfl);(all_goals (exact pre)))));(all_goals exact rfl))|exact side)))
        | ((with_reducible apply CallO.go);(conv=>whnf);(with_reducible apply SideD.mk);(focus (first|((apply giveso_go (atomsO_sem _ _ _));(focus (first|exact rfl|(simp;done)));(focus (exact DLes.au));(focus exact rfl);(all_goals (exact pre))))))
        | ((with_reducible first|apply DrawR.go0|apply KerB.mk);(focus kernel_rfl))
        | (with_reducible first|apply ends_ret|apply ends_norm|apply Halt'.mk)
        | ((with_reducible apply CondD.mk)<;>intro hb<;>(try simp only [SPLT] at hb)<;>(try first|exact noB)))
      all_goals (try exact (false:Bool))
      ·rw [if_neg (by simp_all)] at hadd
       refine ⟨(1,G),⟨by dsimp only;omega,by rw [hadd];simp;omega,by simp,fun _=>rfl⟩,by dsimp only;omega,?_⟩
       (conv=>whnf)
       refine ⟨?_,by rfl⟩
       repeat' ((conv=>whnf);first|exact endF|(exact dle_sl (by rw [hadd,List.map_append,List.map_cons,List.map_nil,Cond.row_mk]))|exact endF2|with_reducible apply DLes.cons)
      ·rw [if_pos (by simp_all)] at hadd
       refine ⟨(1,G),⟨by dsimp only;omega,by rw [hadd];dsimp only;omega,by simp,fun _=>rfl⟩,by dsimp only;omega,?_⟩
       (conv=>whnf)
       refine ⟨?_,by rfl⟩
       repeat' ((conv=>whnf);first|exact endF|(exact dle_sl (by rw [hadd]))|exact endF2|with_reducible apply DLes.cons)
     ·obtain rfl:j=1:=by omega
      obtain rfl:=hv1 rfl
      repeat' (
       (conv=>whnf)
       first
        | ((with_reducible apply DrawI.at 59 idl87_21);(focus exact rfl);(focus kernel_rfl))
        | with_reducible apply ExE.go
        | ((with_reducible apply EqF.mk);(focus exact rfl))
        | with_reducible apply AndI.mk
        | with_reducible exact trivial
        | ((try ((with_reducible first|apply NumE.go|apply IdxE.go|apply TextE.go|apply LookE.go|apply CallE.go);(conv=>whnf)));(with_reducible apply SideD.mk);(focus (first|((try apply givesl);(focus (first|((apply gives_go (has_sem _ _));(focus (exact DLes.au));(focus exact rfl);(all_goals (exact pre)))|((first|apply gives_go (hasNil_sem _)|apply gives_go (contra_sem _)|apply gives_go (atomsNil_sem _ _)|apply gives_go (ruNotX_sem _ _ _ _ _ _)|apply gives_go (ruAnyX_sem _));(focus (exact DLes.au));(focus exact rfl);(all_goals (exact pre)))));(all_goals exact rfl))|exact side)))
        | ((with_reducible apply CallO.go);(conv=>whnf);(with_reducible apply SideD.mk);(focus (first|((apply giveso_go (atomsO_sem _ _ _));(focus (first|exact rfl|(simp;done)));(focus (exact DLes.au));(focus exact rfl);(all_goals (exact pre))))))
        | ((with_reducible first|apply DrawR.go0|apply KerB.mk);(focus kernel_rfl))
        | (with_reducible first|apply ends_ret|apply ends_norm|apply Halt'.mk)
        | ((with_reducible apply CondD.mk)<;>intro hb<;>(try simp only [SPLT] at hb)<;>(try first|exact noB)))
      all_goals (try exact (false:Bool))
      refine ⟨(i+1,acc1),⟨by dsimp only;omega,by dsimp only;omega,hv⟩,by dsimp only;omega,?_⟩
      (conv=>whnf)
      refine ⟨?_,by rfl⟩
      repeat' ((conv=>whnf);first|exact endF|exact endF2|with_reducible apply DLes.cons)
end Go.Proofs.YtfolfppcadjccaaGreatDoor
