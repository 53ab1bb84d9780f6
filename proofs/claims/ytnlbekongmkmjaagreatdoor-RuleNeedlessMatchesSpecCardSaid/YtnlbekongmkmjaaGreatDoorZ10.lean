/- Conditions are compared, and looked for in lists (walks). -/
import Derived.Test.YtnlbekongmkmjaaGreatDoorZ9
import Derived.Test.YtnlbekongmkmjaaGreatDoorZ8
namespace Go.Proofs.YtnlbekongmkmjaaGreatDoor
set_option linter.unusedSimpArgs false
set_option linter.unusedVariables false
open Go.RowKit
set_option maxRecDepth 100000
set_option maxHeartbeats 4000000
theorem equalS_sem (l m:List Str):Sem Tryz.prog 9 [.sl 0 1 (l.map fun s => [.str s]),.sl 0 1 (m.map fun s => [.str s])] (.bool (decide (l=m))):=by
 refine sem_len 0 rfl rfl fun hl1=>sem_len 1 rfl rfl fun hl2 => ?_
 rw [List.length_map] at hl1 hl2
 have e1:(l.map fun s => [D.str s]).length=l.length:=List.length_map _
 have e2:(m.map fun s => [D.str s]).length=m.length:=List.length_map _
 generalize hr:decide (l=m)=r
 have no:l ≠ m→false=r:=fun h=>by rw [← hr];exact (decide_eq_false h).symm
 have yes:l=m→true=r:=fun h=>by rw [← hr];exact (decide_eq_true h).symm
 clear hr
 refine sem_intro (M:=fun t=>mem t []) hT hM Tryz.func9 inferInstance rfl rfl rfl rfl rfl rfl ?_
 repeat' (
  (conv=>whnf)
  first
   | ((try ((with_reducible first|apply NumE.go|apply IdxE.go|apply TextE.go|apply LookE.go|apply CallE.go);(conv=>whnf)));(with_reducible apply SideD.mk);(focus (first|exact side)))
   | ((with_reducible first|apply DrawR.go0|apply KerB.mk);(focus kernel_rfl))
   | (with_reducible first|apply ends_ret|apply ends_norm|apply Halt'.mk)
   | ((with_reducible apply CondD.mk)<;>intro hb<;>(try simp only [SPLT] at hb)<;>(try first|exact noB)))
 all_goals (try exact (false:Bool))
 ·repeat' ((conv=>whnf);first|exact endR|(with_reducible first|apply And.intro|apply endsO_ret|apply endsO_norm|apply DLes.cons))
  all_goals (conv=>whnf)
  exact rle_bool (no fun h=>by subst h;omega)
 ·refine loop_go (M:=fun t=>mem t []) hT hM (fun i:Nat => [(13,.int .i64 i)]) (fun i=>i≤l.length∧l.take i=m.take i) (fun i=>l.length - i) (0) ?_ ?_ ?_
  ·(conv=>whnf)
   refine ⟨?_,by rfl⟩
   repeat' ((conv=>whnf);first|exact endF|exact endF2|with_reducible apply DLes.cons)
  ·exact ⟨by omega,rfl⟩
  ·rintro i ⟨hi1,hi2⟩
   cases hx:l[i]? with
   | none=>
    have hn:=List.getElem?_eq_none_iff.1 hx
    repeat' (
     (conv=>whnf)
     first
      | ((try ((with_reducible first|apply NumE.go|apply IdxE.go|apply TextE.go|apply LookE.go|apply CallE.go);(conv=>whnf)));(with_reducible apply SideD.mk);(focus (first|exact side)))
      | ((with_reducible first|apply DrawR.go0|apply KerB.mk);(focus kernel_rfl))
      | (with_reducible first|apply ends_ret|apply ends_norm|apply Halt'.mk)
      | ((with_reducible apply CondD.mk)<;>intro hb<;>(try simp only [SPLT] at hb)<;>(try first|exact noB)))
    all_goals (try exact (false:Bool))
    repeat' ((conv=>whnf);first|exact endR|(with_reducible first|apply And.intro|apply endsO_ret|apply endsO_norm|apply DLes.cons))
    all_goals (conv=>whnf)
    refine rle_bool (yes ?_)
    rw [List.take_of_length_le hn,List.take_of_length_le (by omega)] at hi2
    exact hi2
   | some x=>
    have hlt:=(List.getElem?_eq_some_iff.1 hx).1
    obtain ⟨y,hy⟩:∃ y,m[i]?=some y:=⟨m[i]'(by omega),by simp⟩
    repeat' (
     (conv=>whnf)
     first
      | ((try ((with_reducible first|apply NumE.go|apply IdxE.go|apply TextE.go|apply LookE.go|apply CallE.go);(conv=>whnf)));(with_reducible apply SideD.mk);(focus (first|(exact idx_eq hx (by omega))|(exact idx_eq hy (by omega))|exact side)))
      | ((with_reducible first|apply DrawR.go0|apply KerB.mk);(focus kernel_rfl))
      | (with_reducible first|apply ends_ret|apply ends_norm|apply Halt'.mk)
      | ((with_reducible apply CondD.mk)<;>intro hb<;>(try simp only [SPLT] at hb)<;>(try first|exact noB)))
    all_goals (try exact (false:Bool))
    ·repeat' ((conv=>whnf);first|exact endR|(with_reducible first|apply And.intro|apply endsO_ret|apply endsO_norm|apply DLes.cons))
     all_goals (conv=>whnf)
     refine rle_bool (no ?_)
     rintro rfl
     rw [hx] at hy
     cases hy
     simp at hb
    ·refine ⟨i+1,⟨by omega,?_⟩,by omega,?_⟩
     ·rw [take_at hx,take_at hy,hi2]
      (try simp at hb)
      rw [hb]
     ·(conv=>whnf)
      refine ⟨?_,by rfl⟩
      repeat' ((conv=>whnf);first|exact endF|exact endF2|with_reducible apply DLes.cons)
theorem equalFuncC_sem (l m:List Cond) (f:Nat) (hq:∀ x ∈ l,∀ y:Cond,Sem Tryz.prog f [.agg x.row,.agg y.row] (.bool (x.same y))) (hl1:l.length≤9223372036854775807) (hl2:m.length≤9223372036854775807) (r:Bool) (hr:r=true↔l=m):Sem Tryz.prog 115 [.sl 0 6 (l.map Cond.row),.sl 0 6 (m.map Cond.row),.fn f []] (.bool r):=by
 have e1:(l.map Cond.row).length=l.length:=List.length_map _
 have e2:(m.map Cond.row).length=m.length:=List.length_map _
 have no:l ≠ m→false=r:=fun h=>by
  cases r with
  | false=>rfl
  | true=>exact absurd (hr.1 rfl) h
 refine sem_intro (M:=fun t=>mem t [8,9]) hT hM Tryz.func115 inferInstance rfl rfl rfl rfl rfl rfl ?_
 repeat' (
  (conv=>whnf)
  first
   | ((try ((with_reducible first|apply NumE.go|apply IdxE.go|apply TextE.go|apply LookE.go|apply CallE.go);(conv=>whnf)));(with_reducible apply SideD.mk);(focus (first|exact side)))
   | ((with_reducible first|apply DrawR.go0|apply KerB.mk);(focus kernel_rfl))
   | (with_reducible first|apply ends_ret|apply ends_norm|apply Halt'.mk)
   | ((with_reducible apply CondD.mk)<;>intro hb<;>(try simp only [SPLT] at hb)<;>(try first|exact noB)))
 all_goals (try exact (false:Bool))
 ·repeat' ((conv=>whnf);first|exact endR|(with_reducible first|apply And.intro|apply endsO_ret|apply endsO_norm|apply DLes.cons))
  all_goals (conv=>whnf)
  exact rle_bool (no fun h=>by subst h;omega)
 ·refine loop_go (M:=fun t=>mem t [8,9]) hT hM (fun i:Nat => [(17,.int .i64 i)]) (fun i=>i≤l.length∧l.take i=m.take i) (fun i=>l.length - i) (0) ?_ ?_ ?_
  ·(conv=>whnf)
   refine ⟨?_,by rfl⟩
   repeat' ((conv=>whnf);first|exact endF|exact endF2|with_reducible apply DLes.cons)
  ·exact ⟨by omega,rfl⟩
  ·rintro i ⟨hi1,hi2⟩
   cases hx:l[i]? with
   | none=>
    have hn:=List.getElem?_eq_none_iff.1 hx
    repeat' (
     (conv=>whnf)
     first
      | ((try ((with_reducible first|apply NumE.go|apply IdxE.go|apply TextE.go|apply LookE.go|apply CallE.go);(conv=>whnf)));(with_reducible apply SideD.mk);(focus (first|exact side)))
      | ((with_reducible first|apply DrawR.go0|apply KerB.mk);(focus kernel_rfl))
      | (with_reducible first|apply ends_ret|apply ends_norm|apply Halt'.mk)
      | ((with_reducible apply CondD.mk)<;>intro hb<;>(try simp only [SPLT] at hb)<;>(try first|exact noB)))
    all_goals (try exact (false:Bool))
    repeat' ((conv=>whnf);first|exact endR|(with_reducible first|apply And.intro|apply endsO_ret|apply endsO_norm|apply DLes.cons))
    all_goals (conv=>whnf)
    refine rle_bool (Eq.symm (hr.2 ?_))
    rw [List.take_of_length_le hn,List.take_of_length_le (by omega)] at hi2
    exact hi2
   | some x=>
    have hlt:=(List.getElem?_eq_some_iff.1 hx).1
    obtain ⟨y,hy⟩:∃ y,m[i]?=some y:=⟨m[i]'(by omega),by simp⟩
    have hc:=hq x (List.mem_of_getElem? hx) y
    have hxy:=Cond.same_iff x y
    generalize x.same y=s at hc hxy
    obtain ⟨k1,ks1,p1,vs1,lo1,ho1⟩:=x
    obtain ⟨k2,ks2,p2,vs2,lo2,ho2⟩:=y
    rw [Cond.row_mk,Cond.row_mk] at hc
    repeat' (
     (conv=>whnf)
     first
      | ((try ((with_reducible first|apply NumE.go|apply IdxE.go|apply TextE.go|apply LookE.go|apply CallE.go);(conv=>whnf)));(with_reducible apply SideD.mk);(focus (first|(exact idx_row hx rfl)|(exact idx_row hy rfl)|((try apply givesl);(focus (((apply gives_go (hc));(focus (exact DLes.au));(focus exact rfl);(all_goals (exact pre)))));(all_goals exact rfl))|exact side)))
      | ((with_reducible first|apply DrawR.go0|apply KerB.mk);(focus kernel_rfl))
      | (with_reducible first|apply ends_ret|apply ends_norm|apply Halt'.mk)
      | ((with_reducible apply CondD.mk)<;>intro hb<;>(try simp only [SPLT] at hb)<;>(try first|exact noB)))
    all_goals (try exact (false:Bool))
    ·repeat' ((conv=>whnf);first|exact endR|(with_reducible first|apply And.intro|apply endsO_ret|apply endsO_norm|apply DLes.cons))
     all_goals (conv=>whnf)
     refine rle_bool (no ?_)
     rintro rfl
     rw [hx] at hy
     cases hy
     simp_all
    ·refine ⟨i+1,⟨by omega,?_⟩,by omega,?_⟩
     ·rw [take_at hx,take_at hy,hi2]
      rw [hxy.1 (by simp_all)]
     ·(conv=>whnf)
      refine ⟨?_,by rfl⟩
      repeat' ((conv=>whnf);first|exact endF|exact endF2|with_reducible apply DLes.cons)
theorem ruSame_sem (a:Cond):∀ b:Cond,Sem Tryz.prog 73 [.agg a.row,.agg b.row] (.bool (a.same b)):=by
 induction a using Cond.ind with
 | h k ks p vs lo hi ih=>
  intro b
  obtain ⟨k',ks',p',vs',lo',hi'⟩:=b
  obtain ⟨r,hr⟩:∃ r,r=(Cond.mk k ks p vs lo hi).same (.mk k' ks' p' vs' lo' hi'):=⟨_,rfl⟩
  have hs:r=true↔k=k'∧ks=ks'∧p=p'∧vs=vs'∧lo=lo'∧hi=hi':=by rw [hr];exact Cond.same_mk
  rw [← hr,Cond.row_mk,Cond.row_mk]
  clear hr
  refine sem_lenA 0 1 rfl rfl rfl fun hl1=>sem_lenA 1 1 rfl rfl rfl fun hl2 => ?_
  rw [List.length_map] at hl1 hl2
  have h2:=equalS_sem vs vs'
  obtain ⟨q,hq⟩:∃ q:Bool,q=true↔ks=ks':=⟨Cond.same (.mk 0 ks [] [] 0 0) (.mk 0 ks' [] [] 0 0),by rw [Cond.same_mk];simp⟩
  have h1:=equalFuncC_sem ks ks' 73 ih hl1 hl2 q hq
  generalize hv:decide (vs=vs')=v at h2
  have hv':v=true↔vs=vs':=by rw [← hv];simp
  clear hv
  refine sem_intro (M:=fun t=>mem t []) hT hM Tryz.func73 inferInstance rfl rfl rfl rfl rfl rfl ?_
  repeat' (
   (conv=>whnf)
   first
    | ((try ((with_reducible first|apply NumE.go|apply IdxE.go|apply TextE.go|apply LookE.go|apply CallE.go);(conv=>whnf)));(with_reducible apply SideD.mk);(focus ((first|(intro hc;have hc0:=hc;(try simp only [SPLT] at hc);(try refine And.intro (by first|exact hc0|exact ⟨hc0,hc0⟩|exact ⟨hc0,hc0,hc0⟩) ?_))|skip);first|((try apply givesl);(focus (first|((apply gives_go (h1));(focus (exact DLes.au));(focus exact rfl);(all_goals (exact pre)))|((apply gives_go (h2));(focus (exact DLes.au));(focus exact rfl);(all_goals (exact pre)))|((first|apply gives_go (equalFuncC_sem _ _ _ _ _ _ _ _)|apply gives_go (equalS_sem _ _));(focus (exact DLes.au));(focus exact rfl);(all_goals (exact pre)))));(all_goals exact rfl))|exact sideG)))
    | ((with_reducible first|apply DrawR.go0|apply KerB.mk);(focus kernel_rfl))
    | (with_reducible first|apply ends_ret|apply ends_norm|apply Halt'.mk)
    | ((with_reducible apply CondD.mk)<;>intro hb<;>(try simp only [SPLT] at hb)<;>(try first|exact noB)))
  all_goals (try exact (false:Bool))
  repeat' ((conv=>whnf);first|exact endR|(with_reducible first|apply And.intro|apply endsO_ret|apply endsO_norm|apply DLes.cons))
  all_goals (conv=>whnf)
  refine rle_bool ?_
  rw [Bool.eq_iff_iff,hs,← hq,← hv']
  simp
  constructor
  ·rintro ⟨⟨⟨⟨⟨h1,h2⟩,h3⟩,h4⟩,h5⟩,h6⟩;exact ⟨h1,h2,h3,h4,h5,h6⟩
  ·rintro ⟨h1,h2,h3,h4,h5,h6⟩;exact ⟨⟨⟨⟨⟨h1,h2⟩,h3⟩,h4⟩,h5⟩,h6⟩
end Go.Proofs.YtnlbekongmkmjaaGreatDoor
