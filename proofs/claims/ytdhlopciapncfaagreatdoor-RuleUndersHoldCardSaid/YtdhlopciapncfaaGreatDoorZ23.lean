/- Copies of conditions. -/
import Derived.Test.YtdhlopciapncfaaGreatDoorZ9
import Derived.Test.YtdhlopciapncfaaGreatDoorZ22
namespace Go.Proofs.YtdhlopciapncfaaGreatDoor
set_option linter.unusedSimpArgs false
set_option linter.unusedVariables false
open Go.RowKit
set_option maxRecDepth 100000
set_option maxHeartbeats 1000000
def idl10_1:List (List Bool) := [[false,false,false,false,false,false,false,false,false,false],[true,false,false,false,false,false,false,false,false,false],[false,false,false,true,false,false,false,false,false,false],[true,true,false,false,false,false,false,false,false,false],[true,false,false,true,false,false,false,false,false,false],[false,false,false,true,true,false,false,false,false,false],[true,true,true,false,false,false,false,false,false,false],[true,true,false,true,false,false,false,false,false,false],[true,false,false,true,true,false,false,false,false,false],[true,true,true,true,false,false,false,false,false,false],[true,true,false,true,true,false,false,false,false,false],[true,true,true,true,true,false,false,false,false,false],[true,true,true,true,true,true,false,false,false,false],[true,true,true,true,true,false,true,false,false,false],[true,true,true,true,true,true,true,false,false,false],[true,true,true,true,true,true,true,true,false,false],[true,true,true,true,true,true,true,true,true,false],[true,true,true,true,true,true,true,true,true,true]]
def idl10_5:List (List Bool) := [[false,false,false,false,false,false,false],[true,false,false,false,false,false,false],[false,false,true,false,false,false,false],[false,false,false,true,false,false,false],[true,true,false,false,false,false,false],[true,false,true,false,false,false,false],[true,false,false,true,false,false,false],[false,false,true,true,false,false,false],[false,false,false,true,true,false,false],[true,true,true,false,false,false,false],[true,true,false,true,false,false,false],[true,false,true,true,false,false,false],[true,false,false,true,true,false,false],[false,false,true,true,true,false,false],[true,true,true,true,false,false,false],[true,true,false,true,true,false,false],[true,false,true,true,true,false,false],[true,true,true,true,true,false,false],[true,true,true,true,true,true,false],[true,true,true,true,true,true,true]]
inductive Cond.Small:Cond→Prop
 |mk {k:Int} {ks:List Cond} {p:Str} {vs:List Str} {lo hi:Int} (h1:ks.length≤1000) (h2:vs.length≤1000) (h3:∀ x ∈ ks,x.Small):Small (.mk k ks p vs lo hi)
theorem cloneS_sem (l:List Str) (hl:l.length≤1000):Sem Tryz.prog 19 [.sl 0 1 (l.map fun s => [.str s])] (.sl 2 1 (l.map fun s => [.str s])):=by
 refine clone_sem (e:=9) (fun r hr=>by obtain ⟨s,_,rfl⟩:=List.mem_map.1 hr;rfl) (fun w=>Tryz.slices_Clone_string_nil 0 0 w) (fun A c w=>Tryz.slices_Clone_string_zero A c w) fun b o c news w hn hc h1 ⟨lim,hk⟩ => ?_
 have hn':news.length=l.length:=by simpa using hn
 have hnews:news=(l.map fun s=>(⟨s.toArray⟩:ByteArray)).map Value.string:=by
  apply List.ext_getElem?
  intro j
  rw [List.map_map,List.getElem?_map]
  cases hj:l[j]? with
  |none=>rw [List.getElem?_eq_none (by rw [hn'];exact List.getElem?_eq_none_iff.1 hj)];rfl
  |some s=>
   obtain ⟨u,u1,u2⟩:=hk j [.str s] 0 (.str s) (by rw [List.getElem?_map,hj];rfl) rfl
   rw [Nat.mul_one,Nat.add_zero] at u1
   rw [u1]
   cases u2
   rfl
 refine (Tryz.slices_Clone_string b o (l.map fun s:Str => [D.str s]).length c (l.map fun s=>(⟨s.toArray⟩:ByteArray)) w (by simp) (by simp;omega) fun j hj => ?_).mono fun x w' ⟨v',h3,h4,h5,h6⟩=>⟨v',h3,?_,h5,h6⟩
 ·refine hc j _ ?_
  rw [hnews,List.getElem?_map,List.getElem?_eq_getElem hj]
  simp [List.getD_eq_getElem?_getD,List.getElem?_eq_getElem hj]
 ·rw [hnews]
  have:((l.map fun s=>(⟨s.toArray⟩:ByteArray)).take (l.map fun s:Str => [D.str s]).length)=(l.map fun s=>(⟨s.toArray⟩:ByteArray)):=List.take_of_length_le (by simp)
  rwa [this] at h4
theorem set_same {l:List Cond} {i:Nat} {k:Int} {ks:List Cond} {p:Str} {vs:List Str} {lo hi:Int} (h:l[i]?=some (.mk k ks p vs lo hi)):(l.map Cond.row).set i [.int .i64 k,.sl 0 6 (ks.map Cond.row),.str p,.sl 0 1 (vs.map fun s => [.str s]),.int .i64 lo,.int .i64 hi]=l.map Cond.row:=by
 apply List.ext_getElem?
 intro j
 rw [List.getElem?_set]
 split
 ·rename_i hj
  subst hj
  rw [List.getElem?_map,h,Option.map_some,Cond.row_mk,if_pos (by rw [List.length_map];exact (gLt h))]
 ·rfl
theorem cloneCond_sem (c:Cond):c.Small→Sem Tryz.prog 10 [.agg c.row] (.agg c.row):=by
 induction c using Cond.ind with
 |h k ks p vs lo hi ih=>
  rintro ⟨h1,h2,h3⟩
  rw [Cond.row_mk]
  refine si [1,4000001,2,4,5000001,5000005] Tryz.func10 ?_
  repeat'((conv=>whnf);first|((with_reducible apply DrawI.at 5 idl10_1);exact rfl;kernel_rfl)|((with_reducible apply DrawI.at 21 idl10_5);exact rfl;kernel_rfl)|with_reducible apply ExE.go|((with_reducible apply EqF.mk);exact rfl)|with_reducible apply AndI.mk|with_reducible exact trivial|(try(first|apply eN|apply eI|apply eC);conv=>whnf);apply sD;(focus first|(refine gx (cloneC_sem ks h1)<;>exact pre)|(refine gx (cloneS_sem vs h2)<;>exact pre)|exact side)|(first|apply dG|apply kB);kernel_rfl|apply rR|apply rE|apply rH| (apply cD<;>intro hb<;>(try simp only[SPLT]at hb)<;>try exact noB))
  all_goals try exact false
  refine loop_go (M:=fun t=>mem t [1,4000001,2,4,5000005]) hT hM (fun i:Nat => [(1,.obj [.int .i64 k,.sl 2 6 (ks.map Cond.row),.str p,.sl 2 1 (vs.map fun s => [.str s]),.int .i64 lo,.int .i64 hi]),(14,.alc 1 1),(16,.int .i64 i)]) (fun i=>i≤ks.length) (fun i=>ks.length - i) (0) ?_ ?_ ?_
  ·exact finF
  ·exact Nat.zero_le _
  ·rintro i hi1
   cases hx:ks[i]? with
   |none=>
    have hn:=List.getElem?_eq_none_iff.1 hx
    repeat'((conv=>whnf);first|((with_reducible apply DrawI.at 5 idl10_1);exact rfl;kernel_rfl)|((with_reducible apply DrawI.at 21 idl10_5);exact rfl;kernel_rfl)|with_reducible apply ExE.go|((with_reducible apply EqF.mk);exact rfl)|with_reducible apply AndI.mk|with_reducible exact trivial|(try(first|apply eN|apply eI|apply eC);conv=>whnf);apply sD;(focus first|(refine gx (cloneC_sem ?_ ?_)<;>exact pre)|(refine gx (cloneS_sem ?_ ?_)<;>exact pre)|exact side)|(first|apply dG|apply kB);kernel_rfl|apply rR|apply rE|apply rH| (apply cD<;>intro hb<;>(try simp only[SPLT]at hb)<;>try exact noB))
    all_goals try exact false
    repeat' ((conv=>whnf);first|exact endR|with_reducible first|apply And.intro|apply oR|apply oN|apply dC)
    all_goals (conv=>whnf)
    (first|refine rle_agg ?_|refine dle_agg ?_|skip)
    repeat' (first|exact endF|exact endF2|with_reducible apply dC|with_reducible apply dle_agg)
   |some x=>
    have hxm:x ∈ ks:=gMem hx
    have hlt:=(gLt hx)
    have ih':=ih x hxm (h3 x hxm)
    obtain ⟨k1,ks1,p1,vs1,lo1,hi1⟩:=x
    rw [Cond.row_mk] at ih'
    repeat'((conv=>whnf);first|((with_reducible apply DrawI.at 5 idl10_1);exact rfl;kernel_rfl)|((with_reducible apply DrawI.at 21 idl10_5);exact rfl;kernel_rfl)|with_reducible apply ExE.go|((with_reducible apply EqF.mk);exact rfl)|with_reducible apply AndI.mk|with_reducible exact trivial|(try(first|apply eN|apply eI|apply eC);conv=>whnf);apply sD;(focus first|(exact idx_row hx rfl)|exact gx ih' | (refine gx (cloneC_sem ?_ ?_)<;>exact pre)|(refine gx (cloneS_sem ?_ ?_)<;>exact pre)|exact side)|(first|apply dG|apply kB);kernel_rfl|apply rR|apply rE|apply rH| (apply cD<;>intro hb<;>(try simp only[SPLT]at hb)<;>try exact noB))
    all_goals try exact false
    refine ⟨i+1,by omega,by omega,?_⟩
    (conv=>whnf)
    refine ⟨?_,by rfl⟩
    repeat' ((conv=>whnf);first|exact endF|(exact DLe.of_eq (congrArg (fun rs=>D.obj [D.int .i64 k,D.sl 2 6 rs,D.str p,D.sl 2 1 (vs.map fun s => [D.str s]),D.int .i64 lo,D.int .i64 hi]) (set_same hx)))|exact endF2|with_reducible apply dC)
end Go.Proofs.YtdhlopciapncfaaGreatDoor
