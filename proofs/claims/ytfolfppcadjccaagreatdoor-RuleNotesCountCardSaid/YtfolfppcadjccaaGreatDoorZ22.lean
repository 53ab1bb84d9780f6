/- Copies of conditions. -/
import Derived.Test.YtfolfppcadjccaaGreatDoorZ8
import Derived.Test.YtfolfppcadjccaaGreatDoorZ21
namespace Go.Proofs.YtfolfppcadjccaaGreatDoor
set_option linter.unusedSimpArgs false
set_option linter.unusedVariables false
open Go.RowKit
set_option maxRecDepth 100000
set_option maxHeartbeats 1000000
def idl37_1:List (List Bool) := [[false,false,false,false,false,false,false,false,false,false],[true,false,false,false,false,false,false,false,false,false],[false,false,false,true,false,false,false,false,false,false],[true,true,false,false,false,false,false,false,false,false],[true,false,false,true,false,false,false,false,false,false],[false,false,false,true,true,false,false,false,false,false],[true,true,true,false,false,false,false,false,false,false],[true,true,false,true,false,false,false,false,false,false],[true,false,false,true,true,false,false,false,false,false],[true,true,true,true,false,false,false,false,false,false],[true,true,false,true,true,false,false,false,false,false],[true,true,true,true,true,false,false,false,false,false],[true,true,true,true,true,true,false,false,false,false],[true,true,true,true,true,false,true,false,false,false],[true,true,true,true,true,true,true,false,false,false],[true,true,true,true,true,true,true,true,false,false],[true,true,true,true,true,true,true,true,true,false],[true,true,true,true,true,true,true,true,true,true]]
def idl37_5:List (List Bool) := [[false,false,false,false,false,false,false],[true,false,false,false,false,false,false],[false,false,true,false,false,false,false],[false,false,false,true,false,false,false],[true,true,false,false,false,false,false],[true,false,true,false,false,false,false],[true,false,false,true,false,false,false],[false,false,true,true,false,false,false],[false,false,false,true,true,false,false],[true,true,true,false,false,false,false],[true,true,false,true,false,false,false],[true,false,true,true,false,false,false],[true,false,false,true,true,false,false],[false,false,true,true,true,false,false],[true,true,true,true,false,false,false],[true,true,false,true,true,false,false],[true,false,true,true,true,false,false],[true,true,true,true,true,false,false],[true,true,true,true,true,true,false],[true,true,true,true,true,true,true]]
/-- Conditions of which each has not too many parts. -/
inductive Cond.Small:Cond→Prop
 | mk {k:Int} {ks:List Cond} {p:Str} {vs:List Str} {lo hi:Int} (h1:ks.length≤1000) (h2:vs.length≤1000) (h3:∀ x ∈ ks,x.Small):Small (.mk k ks p vs lo hi)
theorem cloneS_sem (l:List Str) (hl:l.length≤1000):Sem Tryz.prog 79 [.sl 0 1 (l.map fun s => [.str s])] (.sl 2 1 (l.map fun s => [.str s])):=by
 refine clone_sem (e:=9) (fun r hr=>by obtain ⟨s,_,rfl⟩:=List.mem_map.1 hr;rfl) (fun w=>Tryz.slices_Clone_string_nil 0 0 w) (fun A c w=>Tryz.slices_Clone_string_zero A c w) fun b o c news w hn hc h1 ⟨lim,hk⟩ => ?_
 have hn':news.length=l.length:=by simpa using hn
 have hnews:news=(l.map fun s=>(⟨s.toArray⟩:ByteArray)).map Value.string:=by
  apply List.ext_getElem?
  intro j
  rw [List.map_map,List.getElem?_map]
  cases hj:l[j]? with
  | none=>rw [List.getElem?_eq_none (by rw [hn'];exact List.getElem?_eq_none_iff.1 hj)];rfl
  | some s=>
   obtain ⟨u,u1,u2⟩:=hk j [.str s] 0 (.str s) (by rw [List.getElem?_map,hj];rfl) rfl
   rw [Nat.mul_one,Nat.add_zero] at u1
   rw [u1]
   cases u2
   rfl
 refine (Tryz.slices_Clone_string b o (l.map fun s:Str => [D.str s]).length c (l.map fun s=>(⟨s.toArray⟩:ByteArray)) w (by simp) (by simp;omega) fun j hj => ?_).mono fun x w' ⟨v',h3,h4,h5,h6⟩=>⟨v',h3,?_,h5,h6⟩
 ·refine hc j _ ?_
  rw [hnews,List.getElem?_map,List.getElem?_eq_getElem hj]
  simp [List.getD_eq_getElem?_getD,List.getElem?_eq_getElem hj]
 ·rw [hnews]
  have:((l.map fun s=>(⟨s.toArray⟩:ByteArray)).take (l.map fun s:Str => [D.str s]).length)=(l.map fun s=>(⟨s.toArray⟩:ByteArray)):=List.take_of_length_le (by simp)
  rwa [this] at h4
theorem set_same {l:List Cond} {i:Nat} {k:Int} {ks:List Cond} {p:Str} {vs:List Str} {lo hi:Int} (h:l[i]?=some (.mk k ks p vs lo hi)):(l.map Cond.row).set i [.int .i64 k,.sl 0 6 (ks.map Cond.row),.str p,.sl 0 1 (vs.map fun s => [.str s]),.int .i64 lo,.int .i64 hi]=l.map Cond.row:=by
 apply List.ext_getElem?
 intro j
 rw [List.getElem?_set]
 split
 ·rename_i hj
  subst hj
  rw [List.getElem?_map,h,Option.map_some,Cond.row_mk,if_pos (by rw [List.length_map];exact (List.getElem?_eq_some_iff.1 h).1)]
 ·rfl
theorem cloneCond_sem (c:Cond):c.Small→Sem Tryz.prog 37 [.agg c.row] (.agg c.row):=by
 induction c using Cond.ind with
 | h k ks p vs lo hi ih=>
  rintro ⟨h1,h2,h3⟩
  rw [Cond.row_mk]
  refine sem_intro (M:=fun t=>mem t [1,4000001,2,4,5000001,5000005]) hT hM Tryz.func37 inferInstance rfl rfl rfl rfl rfl rfl ?_
  repeat' (
   (conv=>whnf)
   first
    | ((with_reducible apply DrawI.at 5 idl37_1);(focus exact rfl);(focus kernel_rfl))
    | ((with_reducible apply DrawI.at 21 idl37_5);(focus exact rfl);(focus kernel_rfl))
    | with_reducible apply ExE.go
    | ((with_reducible apply EqF.mk);(focus exact rfl))
    | with_reducible apply AndI.mk
    | with_reducible exact trivial
    | ((try ((with_reducible first|apply NumE.go|apply IdxE.go|apply TextE.go|apply LookE.go|apply CallE.go);(conv=>whnf)));(with_reducible apply SideD.mk);(focus (first|((try apply givesl);(focus (((first|apply gives_go (cloneC_sem ks h1)|apply gives_go (cloneS_sem vs h2));(focus (exact DLes.au));(focus exact rfl);(all_goals (exact pre)))));(all_goals exact rfl))|exact side)))
    | ((with_reducible first|apply DrawR.go0|apply KerB.mk);(focus kernel_rfl))
    | (with_reducible first|apply ends_ret|apply ends_norm|apply Halt'.mk)
    | ((with_reducible apply CondD.mk)<;>intro hb<;>(try simp only [SPLT] at hb)<;>(try first|exact noB)))
  all_goals (try exact (false:Bool))
  refine loop_go (M:=fun t=>mem t [1,4000001,2,4,5000005]) hT hM (fun i:Nat => [(1,.obj [.int .i64 k,.sl 2 6 (ks.map Cond.row),.str p,.sl 2 1 (vs.map fun s => [.str s]),.int .i64 lo,.int .i64 hi]),(14,.alc 1 1),(16,.int .i64 i)]) (fun i=>i≤ks.length) (fun i=>ks.length - i) (0) ?_ ?_ ?_
  ·(conv=>whnf)
   refine ⟨?_,by rfl⟩
   repeat' ((conv=>whnf);first|exact endF|exact endF2|with_reducible apply DLes.cons)
  ·exact Nat.zero_le _
  ·rintro i hi1
   cases hx:ks[i]? with
   | none=>
    have hn:=List.getElem?_eq_none_iff.1 hx
    repeat' (
     (conv=>whnf)
     first
      | ((with_reducible apply DrawI.at 5 idl37_1);(focus exact rfl);(focus kernel_rfl))
      | ((with_reducible apply DrawI.at 21 idl37_5);(focus exact rfl);(focus kernel_rfl))
      | with_reducible apply ExE.go
      | ((with_reducible apply EqF.mk);(focus exact rfl))
      | with_reducible apply AndI.mk
      | with_reducible exact trivial
      | ((try ((with_reducible first|apply NumE.go|apply IdxE.go|apply TextE.go|apply LookE.go|apply CallE.go);(conv=>whnf)));(with_reducible apply SideD.mk);(focus (first|((try apply givesl);(focus (((first|apply gives_go (cloneC_sem _ _)|apply gives_go (cloneS_sem _ _));(focus (exact DLes.au));(focus exact rfl);(all_goals (exact pre)))));(all_goals exact rfl))|exact side)))
      | ((with_reducible first|apply DrawR.go0|apply KerB.mk);(focus kernel_rfl))
      | (with_reducible first|apply ends_ret|apply ends_norm|apply Halt'.mk)
      | ((with_reducible apply CondD.mk)<;>intro hb<;>(try simp only [SPLT] at hb)<;>(try first|exact noB)))
    all_goals (try exact (false:Bool))
    repeat' ((conv=>whnf);first|exact endR|(with_reducible first|apply And.intro|apply endsO_ret|apply endsO_norm|apply DLes.cons))
    all_goals (conv=>whnf)
    (first|refine rle_agg ?_|refine dle_agg ?_|skip)
    repeat' (first|exact endF|exact endF2|with_reducible apply DLes.cons|with_reducible apply dle_agg)
   | some x=>
    have hxm:x ∈ ks:=List.mem_of_getElem? hx
    have hlt:=(List.getElem?_eq_some_iff.1 hx).1
    have ih':=ih x hxm (h3 x hxm)
    obtain ⟨k1,ks1,p1,vs1,lo1,hi1⟩:=x
    rw [Cond.row_mk] at ih'
    repeat' (
     (conv=>whnf)
     first
      | ((with_reducible apply DrawI.at 5 idl37_1);(focus exact rfl);(focus kernel_rfl))
      | ((with_reducible apply DrawI.at 21 idl37_5);(focus exact rfl);(focus kernel_rfl))
      | with_reducible apply ExE.go
      | ((with_reducible apply EqF.mk);(focus exact rfl))
      | with_reducible apply AndI.mk
      | with_reducible exact trivial
      | ((try ((with_reducible first|apply NumE.go|apply IdxE.go|apply TextE.go|apply LookE.go|apply CallE.go);(conv=>whnf)));(with_reducible apply SideD.mk);(focus (first|(exact idx_row hx rfl)|((try apply givesl);(focus (first|((apply gives_go (ih'));(focus (exact DLes.au));(focus exact rfl);(all_goals (exact pre)))|((first|apply gives_go (cloneC_sem _ _)|apply gives_go (cloneS_sem _ _));(focus (exact DLes.au));(focus exact rfl);(all_goals (exact pre)))));(all_goals exact rfl))|exact side)))
      | ((with_reducible first|apply DrawR.go0|apply KerB.mk);(focus kernel_rfl))
      | (with_reducible first|apply ends_ret|apply ends_norm|apply Halt'.mk)
      | ((with_reducible apply CondD.mk)<;>intro hb<;>(try simp only [SPLT] at hb)<;>(try first|exact noB)))
    all_goals (try exact (false:Bool))
    refine ⟨i+1,by omega,by omega,?_⟩
    (conv=>whnf)
    refine ⟨?_,by rfl⟩
    repeat' ((conv=>whnf);first|exact endF|(exact DLe.of_eq (congrArg (fun rs=>D.obj [D.int .i64 k,D.sl 2 6 rs,D.str p,D.sl 2 1 (vs.map fun s => [D.str s]),D.int .i64 lo,D.int .i64 hi]) (set_same hx)))|exact endF2|with_reducible apply DLes.cons)
end Go.Proofs.YtfolfppcadjccaaGreatDoor
