/- Conditions are right: the reference's check of all parts (walks). Atoms, Can, follows: the reference's (walks), and what tables say (plain). Rules: what is wrong with them, and which are needless (plain). Rules that are not needless say all that all rules say (plain). Implies: the reference's (walk). Atoms, Implies, Can: the program's; RuleFollowsMatchSpec (walks). -/
import Derived.Test.YtfolfppcadjccaaGreatDoorZ25
import Derived.Test.YtfolfppcadjccaaGreatDoorZ23
import Derived.Test.YtfolfppcadjccaaGreatDoorZ22
namespace Go.Proofs.YtfolfppcadjccaaGreatDoor
set_option linter.unusedSimpArgs false
set_option linter.unusedVariables false
open Go.RowKit
set_option maxRecDepth 100000
set_option maxHeartbeats 4000000
end Go.Proofs.YtfolfppcadjccaaGreatDoor
namespace Go.Proofs.YtfolfppcadjccaaGreatDoor
set_option linter.unusedSimpArgs false
set_option linter.unusedVariables false
open Go.RowKit
set_option maxRecDepth 100000
set_option maxHeartbeats 4000000
theorem all_congr {α:Type} {p q:α→Bool}:∀ l:List α,(∀ x ∈ l,p x=q x)→l.all p=l.all q
 | [],_=>rfl
 | a::l,h=>by rw [List.all_cons,List.all_cons,h a (by simp),all_congr l fun x hx=>h x (by simp [hx])]
theorem any_notq {α:Type} {p q:α→Bool}:∀ l:List α,(∀ x ∈ l,p x = !q x)→l.any p = !l.all q
 | [],_=>rfl
 | a::l,h=>by rw [List.any_cons,List.all_cons,h a (by simp),any_notq l fun x hx=>h x (by simp [hx])];cases q a<;>simp
theorem tabF_len (f:Form) (m:Nat):(tabF f m).length=2 ^ m:=by unfold tabF;rw [List.length_map,List.length_range]
theorem tabF_get {f:Form} {m s:Nat} (h:s < 2 ^ m):(tabF f m).getD s false=f.tv s:=by
 unfold tabF
 rw [List.getD_eq_getElem?_getD,List.getElem?_map,List.getElem?_range h]
 rfl
theorem imp_foll (cs:List Cond) (b:Cond) (L:List Cond):impB (tabF (b.form L) L.length) (cs.map fun a=>tabF (a.form L) L.length)=follB cs b L:=by
 unfold impB follB
 rw [tabF_len]
 refine all_congr _ fun s hs => ?_
 have hs:=List.mem_range.1 hs
 rw [tabF_get hs,form_tv,List.any_map,any_notq (q:=fun c:Cond=>c.tv L s) cs (fun x _=>by show (!(tabF (x.form L) L.length).getD s false)=_;rw [tabF_get hs,form_tv]),Bool.or_comm]
def impliesN (a b:Cond):Bool × Int:=
 if a.err ≠ 0 then (false,a.err) else if b.err ≠ 0 then (false,b.err) else if 12 < (b.ats (a.ats [])).length then (false,2) else (follB [a] b (b.ats (a.ats [])),0)
def canN (c:Cond):Bool × Int:=
 if c.err ≠ 0 then (false,c.err) else if 12 < (c.ats []).length then (false,2) else (canB c (c.ats []),0)
theorem acnts_sizes:∀ l:List Cond,(∀ x ∈ l,x.acnt≤x.size)→Cond.acnts l≤Cond.sizes l
 | [],_=>by rw [acnts_nil];exact Nat.zero_le _
 | x::l,h=>by
  have h1:=h x (by simp)
  have h2:=acnts_sizes l fun y hy=>h y (by simp [hy])
  rw [acnts_cons,sizes_cons]
  omega
theorem acnt_size (c:Cond):c.acnt≤c.size:=by
 induction c using Cond.ind with
 | h k ks p vs lo hi ih=>
  rw [acnt_mk,size_mk]
  split
  ·omega
  ·have:=acnts_sizes ks ih
   omega
/-- A condition without error. -/
structure Cond.Good (c:Cond):Prop where
 nice:c.Nice 200
 few:c.acnt≤200
theorem err_good {c:Cond} (ht:c.Txt) (h:c.err=0):c.Good:=by
 have h1:=chk_ok c 0 0 (by omega) (by omega) ht h
 have h2:=(chk_bd c 0 0 (by omega)).2 h
 have h3:=acnt_size c
 exact ⟨h1.2,by omega⟩
end Go.Proofs.YtfolfppcadjccaaGreatDoor
namespace Go.Proofs.YtfolfppcadjccaaGreatDoor
set_option linter.unusedSimpArgs false
set_option linter.unusedVariables false
open Go.RowKit
set_option maxRecDepth 100000
structure Rul where
 n:Str
 c:Cond
def Rul.row (r:Rul):List D:=.str r.n::r.c.row
structure Rul.Ok (r:Rul):Prop where
 n:r.n.length≤9223372036854775807
 c:r.c.Txt
end Go.Proofs.YtfolfppcadjccaaGreatDoor
namespace Go.Proofs.YtfolfppcadjccaaGreatDoor
set_option linter.unusedSimpArgs false
set_option linter.unusedVariables false
open Go.RowKit
set_option maxRecDepth 100000
/-- Whatever makes some conditions true makes another one true. -/
def Ent (cs:List Cond) (b:Cond):Prop:=∀ v:Cond→Bool,(∀ c ∈ cs,c.ev v=true)→b.ev v=true
theorem Ent.mono {cs ds:List Cond} {b:Cond} (h:Ent cs b) (hs:∀ c ∈ cs,c ∈ ds):Ent ds b:=fun v hv=>h v fun c hc=>hv c (hs c hc)
end Go.Proofs.YtfolfppcadjccaaGreatDoor
namespace Go.Proofs.YtfolfppcadjccaaGreatDoor
set_option linter.unusedSimpArgs false
set_option linter.unusedVariables false
open Go.RowKit
set_option maxRecDepth 100000
set_option maxHeartbeats 4000000
end Go.Proofs.YtfolfppcadjccaaGreatDoor
namespace Go.Proofs.YtfolfppcadjccaaGreatDoor
set_option linter.unusedSimpArgs false
set_option linter.unusedVariables false
open Go.RowKit
set_option maxRecDepth 100000
set_option maxHeartbeats 4000000
theorem can_sem (c:Cond) (ht:c.Txt):Sem Tryz.prog 24 [.agg c.row] (.tup [.bool (canN c).1,.int .i64 (canN c).2]):=by
 have h1:=checkCond_sem c
 unfold canN
 by_cases g1:c.err=0
 ·have hG:=err_good ht g1
  have h2:=formulas_sem [c] (by simp) (fun x hx=>by obtain rfl:=List.mem_singleton.1 hx;exact nice_small (n:=200) (by omega) _ hG.nice) (by rw [acnts_cons,acnts_nil];have:=hG.few;omega)
  have hok:=fun h=>form_ok (L:=c.ats []) (n:=200) h c hG.nice (ats_grow c []).2
  rw [g1] at h1
  rw [if_neg (by simpa using g1)]
  unfold formsN at h2
  rw [atss_cons,atss_nil] at h2
  generalize c.ats []=A at h2 hok ⊢
  clear g1 hG
  by_cases h12:12 < A.length
  ·rw [if_pos h12] at h2 ⊢
   clear hok
   obtain ⟨k,ks,p,vs,lo,hi⟩:=c
   rw [List.map_cons,List.map_nil,Cond.row_mk] at h2
   rw [Cond.row_mk] at h1 ⊢
   refine sem_intro (M:=fun t=>mem t [1000051,1000088]) hT hM Tryz.func24 inferInstance rfl rfl rfl rfl rfl rfl ?_
   repeat' (
    (conv=>whnf)
    first
     | ((try ((with_reducible first|apply NumE.go|apply IdxE.go|apply TextE.go|apply LookE.go|apply CallE.go);(conv=>whnf)));(with_reducible apply SideD.mk);(focus (first|((try apply givesl);(focus (first|((apply gives_go (h1));(focus (exact DLes.au));(focus exact rfl);(all_goals (exact pre)))|((apply gives_go (h2));(focus (exact DLes.au));(focus exact rfl);(all_goals (exact pre)))|((apply gives_go (checkCond_sem _));(focus (exact DLes.au));(focus exact rfl);(all_goals (exact pre)))|((apply gives_go (true1_sem _ _));(focus (exact DLes.au));(focus exact rfl);(all_goals (exact pre)))|((first|apply gives_go (bgm_check )|apply gives_go (formulas_sem _ _ _ _)|apply gives_go (true2_sem _ _));(focus (exact DLes.au));(focus exact rfl);(all_goals (exact pre)))));(all_goals exact rfl))|exact side)))
     | ((with_reducible first|apply DrawR.go0|apply KerB.mk);(focus kernel_rfl))
     | (with_reducible first|apply ends_ret|apply ends_norm|apply Halt'.mk)
     | ((with_reducible apply CondD.mk)<;>intro hb<;>(try simp only [SPLT] at hb)<;>(try first|exact noB)))
   all_goals (try exact (false:Bool))
   repeat' ((conv=>whnf);first|exact endR|(with_reducible first|apply And.intro|apply endsO_ret|apply endsO_norm|apply DLes.cons))
   all_goals (conv=>whnf)
  ·rw [if_neg h12] at h2 ⊢
   have hT:∀ s:Nat,Sem Tryz.prog 49 [.agg (c.form A).row,.int .i64 s] (.bool (c.tv A s)):=fun s=>by
    rw [← form_tv]
    exact isTrue_sem _ (hok (by omega)) s (by omega)
   obtain ⟨N,hN,hN2⟩:∃ N:Nat,2 ^ A.length=N∧N≤4096:=⟨_,rfl,two_pow_le (by omega)⟩
   have hw:=shl_ok (many:=A.length) hN hN2
   have hA64:(A.length:Int)≤64:=by omega
   obtain ⟨g,hg⟩:∃ g:Nat→Bool,g=fun s:Nat=>c.tv A s:=⟨_,rfl⟩
   have hcan:canB c A=(List.range N).any g:=by rw [← hN,hg];rfl
   rw [hcan]
   have hTv:∀ s:Nat,Sem Tryz.prog 49 [.agg (c.form A).row,.int .i64 s] (.bool (g s)):=fun s=>by rw [hg];exact hT s
   clear hT hg hcan hok
   rw [List.map_cons,List.map_nil,List.map_cons,List.map_nil] at h2
   dsimp only at h2
   generalize c.form A=y at h2 hTv
   obtain ⟨k,ks,p,vs,lo,hi⟩:=c
   obtain ⟨k3,a3,fs3⟩:=y
   rw [Cond.row_mk,List.map_cons,List.map_nil,Form.row_mk] at h2
   rw [Cond.row_mk] at h1 ⊢
   rw [Form.row_mk] at hTv
   refine sem_intro (M:=fun t=>mem t [1000051,1000088]) hT hM Tryz.func24 inferInstance rfl rfl rfl rfl rfl rfl ?_
   repeat' (
    (conv=>whnf)
    first
     | ((try ((with_reducible first|apply NumE.go|apply IdxE.go|apply TextE.go|apply LookE.go|apply CallE.go);(conv=>whnf)));(with_reducible apply SideD.mk);(focus (first|(exact ⟨by omega,hA64,hw⟩)|((try apply givesl);(focus (first|((apply gives_go (h1));(focus (exact DLes.au));(focus exact rfl);(all_goals (exact pre)))|((apply gives_go (h2));(focus (exact DLes.au));(focus exact rfl);(all_goals (exact pre)))|((apply gives_go (checkCond_sem _));(focus (exact DLes.au));(focus exact rfl);(all_goals (exact pre)))|((apply gives_go (true1_sem _ _));(focus (exact DLes.au));(focus exact rfl);(all_goals (exact pre)))|((first|apply gives_go (bgm_check )|apply gives_go (formulas_sem _ _ _ _)|apply gives_go (true2_sem _ _));(focus (exact DLes.au));(focus exact rfl);(all_goals (exact pre)))));(all_goals exact rfl))|exact side)))
     | ((with_reducible first|apply DrawR.go0|apply KerB.mk);(focus kernel_rfl))
     | (with_reducible first|apply ends_ret|apply ends_norm|apply Halt'.mk)
     | ((with_reducible apply CondD.mk)<;>intro hb<;>(try simp only [SPLT] at hb)<;>(try first|exact noB)))
   all_goals (try exact (false:Bool))
   refine loop_go (M:=fun t=>mem t [1000051,1000088]) hT hM (fun s:Nat => [(26,.int .i64 s)]) (fun s=>s≤N∧(List.range s).any g=false) (fun s=>N - s) (0) ?_ ?_ ?_
   ·(conv=>whnf)
    refine ⟨?_,by rfl⟩
    repeat' ((conv=>whnf);first|exact endF|exact endF2|with_reducible apply DLes.cons)
   ·exact ⟨Nat.zero_le _,rfl⟩
   ·rintro s ⟨hs1,hs2⟩
    have h5:=hTv s
    by_cases hlt:s < N
    ·have hyes:g s=true→(List.range N).any g=true:=fun h=>by
      rw [List.any_eq_true]
      exact ⟨s,List.mem_range.2 hlt,h⟩
     have hno:g s=false→(List.range (s+1)).any g=false:=fun h=>by
      rw [List.range_succ,List.any_append,hs2]
      simp [h]
     generalize (List.range N).any g=r at hyes ⊢
     generalize g s=q at h5 hyes hno
     repeat' (
      (conv=>whnf)
      first
       | ((try ((with_reducible first|apply NumE.go|apply IdxE.go|apply TextE.go|apply LookE.go|apply CallE.go);(conv=>whnf)));(with_reducible apply SideD.mk);(focus (first|(exact ⟨by decide,rfl⟩)|((try apply givesl);(focus (first|((apply gives_go (h5));(focus (exact DLes.au));(focus exact rfl);(all_goals (exact pre)))|((apply gives_go (checkCond_sem _));(focus (exact DLes.au));(focus exact rfl);(all_goals (exact pre)))|((apply gives_go (true1_sem _ _));(focus (exact DLes.au));(focus exact rfl);(all_goals (exact pre)))|((first|apply gives_go (bgm_check )|apply gives_go (formulas_sem _ _ _ _)|apply gives_go (true2_sem _ _));(focus (exact DLes.au));(focus exact rfl);(all_goals (exact pre)))));(all_goals exact rfl))|exact side)))
       | ((with_reducible first|apply DrawR.go0|apply KerB.mk);(focus kernel_rfl))
       | (with_reducible first|apply ends_ret|apply ends_norm|apply Halt'.mk)
       | ((with_reducible apply CondD.mk)<;>intro hb<;>(try simp only [SPLT] at hb)<;>(try first|exact noB)))
     all_goals (try exact (false:Bool))
     ·repeat' ((conv=>whnf);first|exact endR|(with_reducible first|apply And.intro|apply endsO_ret|apply endsO_norm|apply DLes.cons))
      all_goals (conv=>whnf)
      exact rle_bool (hyes hb).symm
     ·refine ⟨s+1,⟨by omega,hno (by simpa using hb)⟩,by omega,?_⟩
      (conv=>whnf)
      refine ⟨?_,by rfl⟩
      repeat' ((conv=>whnf);first|exact endF|exact endF2|with_reducible apply DLes.cons)
    ·obtain rfl:s=N:=by omega
     repeat' (
      (conv=>whnf)
      first
       | ((try ((with_reducible first|apply NumE.go|apply IdxE.go|apply TextE.go|apply LookE.go|apply CallE.go);(conv=>whnf)));(with_reducible apply SideD.mk);(focus (first|((try apply givesl);(focus (first|((apply gives_go (checkCond_sem _));(focus (exact DLes.au));(focus exact rfl);(all_goals (exact pre)))|((apply gives_go (true1_sem _ _));(focus (exact DLes.au));(focus exact rfl);(all_goals (exact pre)))|((first|apply gives_go (bgm_check )|apply gives_go (formulas_sem _ _ _ _)|apply gives_go (true2_sem _ _));(focus (exact DLes.au));(focus exact rfl);(all_goals (exact pre)))));(all_goals exact rfl))|exact side)))
       | ((with_reducible first|apply DrawR.go0|apply KerB.mk);(focus kernel_rfl))
       | (with_reducible first|apply ends_ret|apply ends_norm|apply Halt'.mk)
       | ((with_reducible apply CondD.mk)<;>intro hb<;>(try simp only [SPLT] at hb)<;>(try first|exact noB)))
     all_goals (try exact (false:Bool))
     repeat' ((conv=>whnf);first|exact endR|(with_reducible first|apply And.intro|apply endsO_ret|apply endsO_norm|apply DLes.cons))
     all_goals (conv=>whnf)
     exact rle_bool hs2.symm
 ·rw [if_pos g1]
  generalize c.err=e1 at h1 g1 ⊢
  obtain ⟨k,ks,p,vs,lo,hi⟩:=c
  rw [Cond.row_mk] at h1 ⊢
  refine sem_intro (M:=fun t=>mem t [1000051,1000088]) hT hM Tryz.func24 inferInstance rfl rfl rfl rfl rfl rfl ?_
  repeat' (
   (conv=>whnf)
   first
    | ((try ((with_reducible first|apply NumE.go|apply IdxE.go|apply TextE.go|apply LookE.go|apply CallE.go);(conv=>whnf)));(with_reducible apply SideD.mk);(focus (first|((try apply givesl);(focus (first|((apply gives_go (h1));(focus (exact DLes.au));(focus exact rfl);(all_goals (exact pre)))|((apply gives_go (checkCond_sem _));(focus (exact DLes.au));(focus exact rfl);(all_goals (exact pre)))|((apply gives_go (true1_sem _ _));(focus (exact DLes.au));(focus exact rfl);(all_goals (exact pre)))|((first|apply gives_go (bgm_check )|apply gives_go (formulas_sem _ _ _ _)|apply gives_go (true2_sem _ _));(focus (exact DLes.au));(focus exact rfl);(all_goals (exact pre)))));(all_goals exact rfl))|exact side)))
    | ((with_reducible first|apply DrawR.go0|apply KerB.mk);(focus kernel_rfl))
    | (with_reducible first|apply ends_ret|apply ends_norm|apply Halt'.mk)
    | ((with_reducible apply CondD.mk)<;>intro hb<;>(try simp only [SPLT] at hb)<;>(try first|exact noB)))
  all_goals (try exact (false:Bool))
  repeat' ((conv=>whnf);first|exact endR|(with_reducible first|apply And.intro|apply endsO_ret|apply endsO_norm|apply DLes.cons))
  all_goals (conv=>whnf)
theorem implies_sem (a b:Cond) (ha:a.Txt) (hb:b.Txt):Sem Tryz.prog 23 [.agg a.row,.agg b.row] (.tup [.bool (impliesN a b).1,.int .i64 (impliesN a b).2]):=by
 have h1:=checkCond_sem a
 have h2:=checkCond_sem b
 unfold impliesN
 by_cases g1:a.err=0
 ·rw [if_neg (by simpa using g1)]
  by_cases g2:b.err=0
  ·rw [if_neg (by simpa using g2)]
   have hGa:=err_good ha g1
   have hGb:=err_good hb g2
   rw [g1] at h1
   rw [g2] at h2
   clear g1 g2 ha hb
   have h3:=formulas_sem [a,b] (by simp) (fun x hx=>by
    rcases List.mem_cons.1 hx with rfl|hx
    ·exact nice_small (n:=200) (by omega) _ hGa.nice
    ·obtain rfl:=List.mem_singleton.1 hx
     exact nice_small (n:=200) (by omega) _ hGb.nice) (by rw [acnts_cons,acnts_cons,acnts_nil];have:=hGa.few;have:=hGb.few;omega)
   unfold formsN at h3
   rw [atss_cons,atss_cons,atss_nil] at h3
   obtain ⟨⟨M,hM⟩,hbI⟩:=ats_grow b (a.ats [])
   have haI:a.In (b.ats (a.ats [])):=by rw [hM];exact In_app _ (ats_grow a []).2
   clear hM
   generalize b.ats (a.ats [])=A at h3 hbI haI ⊢
   by_cases h12:12 < A.length
   ·rw [if_pos h12] at h3 ⊢
    clear hbI haI hGa hGb
    obtain ⟨k,ks,p,vs,lo,hi⟩:=a
    obtain ⟨k2,ks2,p2,vs2,lo2,hi2⟩:=b
    rw [List.map_cons,List.map_cons,List.map_nil,Cond.row_mk,Cond.row_mk] at h3
    rw [Cond.row_mk] at h1 h2 ⊢
    rw [Cond.row_mk]
    refine sem_intro (M:=fun t=>mem t [7,1000051,1000088]) hT hM Tryz.func23 inferInstance rfl rfl rfl rfl rfl rfl ?_
    repeat' (
     (conv=>whnf)
     first
      | ((try ((with_reducible first|apply NumE.go|apply IdxE.go|apply TextE.go|apply LookE.go|apply CallE.go);(conv=>whnf)));(with_reducible apply SideD.mk);(focus (first|((try apply givesl);(focus (first|((apply gives_go (checkCond_sem _));(focus (exact DLes.au));(focus exact rfl);(all_goals (exact pre)))|((first|apply gives_go (bgm_check )|apply gives_go (formulas_sem _ _ _ _)|apply gives_go (table_sem _ _ _ _)|apply gives_go (implied_sem _ _ _));(focus (exact DLes.au));(focus exact rfl);(all_goals (exact pre)))));(all_goals exact rfl))|exact side)))
      | ((with_reducible first|apply DrawR.go0|apply KerB.mk);(focus kernel_rfl))
      | (with_reducible first|apply ends_ret|apply ends_norm|apply Halt'.mk)
      | ((with_reducible apply CondD.mk)<;>intro hb<;>(try simp only [SPLT] at hb)<;>(try first|exact noB)))
    all_goals (try exact (false:Bool))
    refine ht_frzI [14] ?_
    conv=>whnf
    refine loop_go (M:=fun t=>mem t [7,1000051,1000088]) hT hM (fun i:Nat => [(16,.int .i64 i)]) (fun i=>i≤2) (fun i=>2 - i) (0) ?_ ?_ ?_
    ·(conv=>whnf)
     refine ⟨?_,by rfl⟩
     repeat' ((conv=>whnf);first|exact endF|exact endF2|with_reducible apply DLes.cons)
    ·exact Nat.zero_le _
    ·rintro i hi'
     rcases i with _|_|_|i
     ·repeat' (
       (conv=>whnf)
       first
        | ((try ((with_reducible first|apply NumE.go|apply IdxE.go|apply TextE.go|apply LookE.go|apply CallE.go);(conv=>whnf)));(with_reducible apply SideD.mk);(focus (first|(exact ⟨by decide,rfl⟩)|((try apply givesl);(focus (first|((apply gives_go (h1));(focus (exact DLes.au));(focus exact rfl);(all_goals (exact pre)))|((apply gives_go (checkCond_sem _));(focus (exact DLes.au));(focus exact rfl);(all_goals (exact pre)))|((first|apply gives_go (bgm_check )|apply gives_go (formulas_sem _ _ _ _)|apply gives_go (table_sem _ _ _ _)|apply gives_go (implied_sem _ _ _));(focus (exact DLes.au));(focus exact rfl);(all_goals (exact pre)))));(all_goals exact rfl))|exact side)))
        | ((with_reducible first|apply DrawR.go0|apply KerB.mk);(focus kernel_rfl))
        | (with_reducible first|apply ends_ret|apply ends_norm|apply Halt'.mk)
        | ((with_reducible apply CondD.mk)<;>intro hb<;>(try simp only [SPLT] at hb)<;>(try first|exact noB)))
      all_goals (try exact (false:Bool))
      refine ⟨1,by omega,by omega,?_⟩
      (conv=>whnf)
      refine ⟨?_,by rfl⟩
      repeat' ((conv=>whnf);first|exact endF|exact endF2|with_reducible apply DLes.cons)
     ·repeat' (
       (conv=>whnf)
       first
        | ((try ((with_reducible first|apply NumE.go|apply IdxE.go|apply TextE.go|apply LookE.go|apply CallE.go);(conv=>whnf)));(with_reducible apply SideD.mk);(focus (first|(exact ⟨by decide,rfl⟩)|((try apply givesl);(focus (first|((apply gives_go (h2));(focus (exact DLes.au));(focus exact rfl);(all_goals (exact pre)))|((apply gives_go (checkCond_sem _));(focus (exact DLes.au));(focus exact rfl);(all_goals (exact pre)))|((first|apply gives_go (bgm_check )|apply gives_go (formulas_sem _ _ _ _)|apply gives_go (table_sem _ _ _ _)|apply gives_go (implied_sem _ _ _));(focus (exact DLes.au));(focus exact rfl);(all_goals (exact pre)))));(all_goals exact rfl))|exact side)))
        | ((with_reducible first|apply DrawR.go0|apply KerB.mk);(focus kernel_rfl))
        | (with_reducible first|apply ends_ret|apply ends_norm|apply Halt'.mk)
        | ((with_reducible apply CondD.mk)<;>intro hb<;>(try simp only [SPLT] at hb)<;>(try first|exact noB)))
      all_goals (try exact (false:Bool))
      refine ⟨2,by omega,by omega,?_⟩
      (conv=>whnf)
      refine ⟨?_,by rfl⟩
      repeat' ((conv=>whnf);first|exact endF|exact endF2|with_reducible apply DLes.cons)
     ·repeat' (
       (conv=>whnf)
       first
        | ((try ((with_reducible first|apply NumE.go|apply IdxE.go|apply TextE.go|apply LookE.go|apply CallE.go);(conv=>whnf)));(with_reducible apply SideD.mk);(focus (first|((try apply givesl);(focus (first|((apply gives_go (h3));(focus (exact DLes.au));(focus exact rfl);(all_goals (exact pre)))|((apply gives_go (checkCond_sem _));(focus (exact DLes.au));(focus exact rfl);(all_goals (exact pre)))|((first|apply gives_go (bgm_check )|apply gives_go (formulas_sem _ _ _ _)|apply gives_go (table_sem _ _ _ _)|apply gives_go (implied_sem _ _ _));(focus (exact DLes.au));(focus exact rfl);(all_goals (exact pre)))));(all_goals exact rfl))|exact side)))
        | ((with_reducible first|apply DrawR.go0|apply KerB.mk);(focus kernel_rfl))
        | (with_reducible first|apply ends_ret|apply ends_norm|apply Halt'.mk)
        | ((with_reducible apply CondD.mk)<;>intro hb<;>(try simp only [SPLT] at hb)<;>(try first|exact noB)))
      all_goals (try exact (false:Bool))
      repeat' ((conv=>whnf);first|exact endR|(with_reducible first|apply And.intro|apply endsO_ret|apply endsO_norm|apply DLes.cons))
      all_goals (conv=>whnf)
     ·omega
   ·rw [if_neg h12] at h3 ⊢
    have hfa:=form_ok (L:=A) (n:=200) (by omega) a hGa.nice haI
    have hfb:=form_ok (L:=A) (n:=200) (by omega) b hGb.nice hbI
    have h4:Sem Tryz.prog 48 [.agg (a.form A).row,.int .i64 A.length] (.sl 0 1 ((tabF (a.form A) A.length).map boR)):=(table_sem _ hfa A.length (by omega)).frozen
    have h5:Sem Tryz.prog 48 [.agg (b.form A).row,.int .i64 A.length] (.sl 0 1 ((tabF (b.form A) A.length).map boR)):=(table_sem _ hfb A.length (by omega)).frozen
    have h6:Sem Tryz.prog 47 [.sl 0 1 ((tabF (b.form A) A.length).map boR),.sl 0 1 [[.sl 0 1 ((tabF (a.form A) A.length).map boR)]]] (.bool (impB (tabF (b.form A) A.length) [tabF (a.form A) A.length])):=implied_sem _ [tabF (a.form A) A.length] fun t ht=>by
     obtain rfl:=List.mem_singleton.1 ht
     rw [tabF_len,tabF_len]
    have h7:impB (tabF (b.form A) A.length) [tabF (a.form A) A.length]=follB [a] b A:=imp_foll [a] b A
    rw [h7] at h6
    clear h7 hfa hfb hbI haI hGa hGb
    generalize follB [a] b A=fb at h6 ⊢
    simp only [List.map_cons,List.map_nil] at h3
    generalize tabF (a.form A) A.length=ta at h4 h6
    generalize tabF (b.form A) A.length=tb at h5 h6
    generalize a.form A=ya at h3 h4
    generalize b.form A=yb at h3 h5
    obtain ⟨k,ks,p,vs,lo,hi⟩:=a
    obtain ⟨k2,ks2,p2,vs2,lo2,hi2⟩:=b
    obtain ⟨k3,a3,fs3⟩:=ya
    obtain ⟨k4,a4,fs4⟩:=yb
    rw [Cond.row_mk,Cond.row_mk,Form.row_mk,Form.row_mk] at h3
    rw [Form.row_mk] at h4 h5
    rw [Cond.row_mk] at h1 h2 ⊢
    rw [Cond.row_mk]
    refine sem_intro (M:=fun t=>mem t [7,1000051,1000088]) hT hM Tryz.func23 inferInstance rfl rfl rfl rfl rfl rfl ?_
    repeat' (
     (conv=>whnf)
     first
      | ((try ((with_reducible first|apply NumE.go|apply IdxE.go|apply TextE.go|apply LookE.go|apply CallE.go);(conv=>whnf)));(with_reducible apply SideD.mk);(focus (first|((try apply givesl);(focus (first|((apply gives_go (checkCond_sem _));(focus (exact DLes.au));(focus exact rfl);(all_goals (exact pre)))|((first|apply gives_go (bgm_check )|apply gives_go (formulas_sem _ _ _ _)|apply gives_go (table_sem _ _ _ _)|apply gives_go (implied_sem _ _ _));(focus (exact DLes.au));(focus exact rfl);(all_goals (exact pre)))));(all_goals exact rfl))|exact side)))
      | ((with_reducible first|apply DrawR.go0|apply KerB.mk);(focus kernel_rfl))
      | (with_reducible first|apply ends_ret|apply ends_norm|apply Halt'.mk)
      | ((with_reducible apply CondD.mk)<;>intro hb<;>(try simp only [SPLT] at hb)<;>(try first|exact noB)))
    all_goals (try exact (false:Bool))
    refine ht_frzI [14] ?_
    conv=>whnf
    refine loop_go (M:=fun t=>mem t [7,1000051,1000088]) hT hM (fun i:Nat => [(16,.int .i64 i)]) (fun i=>i≤2) (fun i=>2 - i) (0) ?_ ?_ ?_
    ·(conv=>whnf)
     refine ⟨?_,by rfl⟩
     repeat' ((conv=>whnf);first|exact endF|exact endF2|with_reducible apply DLes.cons)
    ·exact Nat.zero_le _
    ·rintro i hi'
     rcases i with _|_|_|i
     ·repeat' (
       (conv=>whnf)
       first
        | ((try ((with_reducible first|apply NumE.go|apply IdxE.go|apply TextE.go|apply LookE.go|apply CallE.go);(conv=>whnf)));(with_reducible apply SideD.mk);(focus (first|(exact ⟨by decide,rfl⟩)|((try apply givesl);(focus (first|((apply gives_go (h1));(focus (exact DLes.au));(focus exact rfl);(all_goals (exact pre)))|((apply gives_go (checkCond_sem _));(focus (exact DLes.au));(focus exact rfl);(all_goals (exact pre)))|((first|apply gives_go (bgm_check )|apply gives_go (formulas_sem _ _ _ _)|apply gives_go (table_sem _ _ _ _)|apply gives_go (implied_sem _ _ _));(focus (exact DLes.au));(focus exact rfl);(all_goals (exact pre)))));(all_goals exact rfl))|exact side)))
        | ((with_reducible first|apply DrawR.go0|apply KerB.mk);(focus kernel_rfl))
        | (with_reducible first|apply ends_ret|apply ends_norm|apply Halt'.mk)
        | ((with_reducible apply CondD.mk)<;>intro hb<;>(try simp only [SPLT] at hb)<;>(try first|exact noB)))
      all_goals (try exact (false:Bool))
      refine ⟨1,by omega,by omega,?_⟩
      (conv=>whnf)
      refine ⟨?_,by rfl⟩
      repeat' ((conv=>whnf);first|exact endF|exact endF2|with_reducible apply DLes.cons)
     ·repeat' (
       (conv=>whnf)
       first
        | ((try ((with_reducible first|apply NumE.go|apply IdxE.go|apply TextE.go|apply LookE.go|apply CallE.go);(conv=>whnf)));(with_reducible apply SideD.mk);(focus (first|(exact ⟨by decide,rfl⟩)|((try apply givesl);(focus (first|((apply gives_go (h2));(focus (exact DLes.au));(focus exact rfl);(all_goals (exact pre)))|((apply gives_go (checkCond_sem _));(focus (exact DLes.au));(focus exact rfl);(all_goals (exact pre)))|((first|apply gives_go (bgm_check )|apply gives_go (formulas_sem _ _ _ _)|apply gives_go (table_sem _ _ _ _)|apply gives_go (implied_sem _ _ _));(focus (exact DLes.au));(focus exact rfl);(all_goals (exact pre)))));(all_goals exact rfl))|exact side)))
        | ((with_reducible first|apply DrawR.go0|apply KerB.mk);(focus kernel_rfl))
        | (with_reducible first|apply ends_ret|apply ends_norm|apply Halt'.mk)
        | ((with_reducible apply CondD.mk)<;>intro hb<;>(try simp only [SPLT] at hb)<;>(try first|exact noB)))
      all_goals (try exact (false:Bool))
      refine ⟨2,by omega,by omega,?_⟩
      (conv=>whnf)
      refine ⟨?_,by rfl⟩
      repeat' ((conv=>whnf);first|exact endF|exact endF2|with_reducible apply DLes.cons)
     ·repeat' (
       (conv=>whnf)
       first
        | ((try ((with_reducible first|apply NumE.go|apply IdxE.go|apply TextE.go|apply LookE.go|apply CallE.go);(conv=>whnf)));(with_reducible apply SideD.mk);(focus (first|(exact ⟨by decide,rfl⟩)|((try apply givesl);(focus (first|((apply gives_go (h3));(focus (exact DLes.au));(focus exact rfl);(all_goals (exact pre)))|((apply gives_go (h4));(focus (exact DLes.au));(focus exact rfl);(all_goals (exact pre)))|((apply gives_go (h5));(focus (exact DLes.au));(focus exact rfl);(all_goals (exact pre)))|((apply gives_go (h6));(focus (exact DLes.au));(focus exact rfl);(all_goals (exact pre)))|((apply gives_go (checkCond_sem _));(focus (exact DLes.au));(focus exact rfl);(all_goals (exact pre)))|((first|apply gives_go (bgm_check )|apply gives_go (formulas_sem _ _ _ _)|apply gives_go (table_sem _ _ _ _)|apply gives_go (implied_sem _ _ _));(focus (exact DLes.au));(focus exact rfl);(all_goals (exact pre)))));(all_goals exact rfl))|exact side)))
        | ((with_reducible first|apply DrawR.go0|apply KerB.mk);(focus kernel_rfl))
        | (with_reducible first|apply ends_ret|apply ends_norm|apply Halt'.mk)
        | ((with_reducible apply CondD.mk)<;>intro hb<;>(try simp only [SPLT] at hb)<;>(try first|exact noB)))
      all_goals (try exact (false:Bool))
      repeat' ((conv=>whnf);first|exact endR|(with_reducible first|apply And.intro|apply endsO_ret|apply endsO_norm|apply DLes.cons))
      all_goals (conv=>whnf)
     ·omega
  ·rw [if_pos g2]
   rw [g1] at h1
   clear g1 ha hb
   generalize b.err=e2 at h2 g2 ⊢
   obtain ⟨k,ks,p,vs,lo,hi⟩:=a
   obtain ⟨k2,ks2,p2,vs2,lo2,hi2⟩:=b
   rw [Cond.row_mk] at h1 h2 ⊢
   rw [Cond.row_mk]
   refine sem_intro (M:=fun t=>mem t [7,1000051,1000088]) hT hM Tryz.func23 inferInstance rfl rfl rfl rfl rfl rfl ?_
   repeat' (
    (conv=>whnf)
    first
     | ((try ((with_reducible first|apply NumE.go|apply IdxE.go|apply TextE.go|apply LookE.go|apply CallE.go);(conv=>whnf)));(with_reducible apply SideD.mk);(focus (first|((try apply givesl);(focus (first|((apply gives_go (checkCond_sem _));(focus (exact DLes.au));(focus exact rfl);(all_goals (exact pre)))|((first|apply gives_go (bgm_check )|apply gives_go (formulas_sem _ _ _ _)|apply gives_go (table_sem _ _ _ _)|apply gives_go (implied_sem _ _ _));(focus (exact DLes.au));(focus exact rfl);(all_goals (exact pre)))));(all_goals exact rfl))|exact side)))
     | ((with_reducible first|apply DrawR.go0|apply KerB.mk);(focus kernel_rfl))
     | (with_reducible first|apply ends_ret|apply ends_norm|apply Halt'.mk)
     | ((with_reducible apply CondD.mk)<;>intro hb<;>(try simp only [SPLT] at hb)<;>(try first|exact noB)))
   all_goals (try exact (false:Bool))
   refine ht_frzI [14] ?_
   conv=>whnf
   refine loop_go (M:=fun t=>mem t [7,1000051,1000088]) hT hM (fun i:Nat => [(16,.int .i64 i)]) (fun i=>i≤1) (fun i=>2 - i) (0) ?_ ?_ ?_
   ·(conv=>whnf)
    refine ⟨?_,by rfl⟩
    repeat' ((conv=>whnf);first|exact endF|exact endF2|with_reducible apply DLes.cons)
   ·exact Nat.zero_le _
   ·rintro i hi'
    rcases i with _|_|i
    ·repeat' (
      (conv=>whnf)
      first
       | ((try ((with_reducible first|apply NumE.go|apply IdxE.go|apply TextE.go|apply LookE.go|apply CallE.go);(conv=>whnf)));(with_reducible apply SideD.mk);(focus (first|(exact ⟨by decide,rfl⟩)|((try apply givesl);(focus (first|((apply gives_go (h1));(focus (exact DLes.au));(focus exact rfl);(all_goals (exact pre)))|((apply gives_go (checkCond_sem _));(focus (exact DLes.au));(focus exact rfl);(all_goals (exact pre)))|((first|apply gives_go (bgm_check )|apply gives_go (formulas_sem _ _ _ _)|apply gives_go (table_sem _ _ _ _)|apply gives_go (implied_sem _ _ _));(focus (exact DLes.au));(focus exact rfl);(all_goals (exact pre)))));(all_goals exact rfl))|exact side)))
       | ((with_reducible first|apply DrawR.go0|apply KerB.mk);(focus kernel_rfl))
       | (with_reducible first|apply ends_ret|apply ends_norm|apply Halt'.mk)
       | ((with_reducible apply CondD.mk)<;>intro hb<;>(try simp only [SPLT] at hb)<;>(try first|exact noB)))
     all_goals (try exact (false:Bool))
     refine ⟨1,by omega,by omega,?_⟩
     (conv=>whnf)
     refine ⟨?_,by rfl⟩
     repeat' ((conv=>whnf);first|exact endF|exact endF2|with_reducible apply DLes.cons)
    ·repeat' (
      (conv=>whnf)
      first
       | ((try ((with_reducible first|apply NumE.go|apply IdxE.go|apply TextE.go|apply LookE.go|apply CallE.go);(conv=>whnf)));(with_reducible apply SideD.mk);(focus (first|(exact ⟨by decide,rfl⟩)|((try apply givesl);(focus (first|((apply gives_go (h2));(focus (exact DLes.au));(focus exact rfl);(all_goals (exact pre)))|((apply gives_go (checkCond_sem _));(focus (exact DLes.au));(focus exact rfl);(all_goals (exact pre)))|((first|apply gives_go (bgm_check )|apply gives_go (formulas_sem _ _ _ _)|apply gives_go (table_sem _ _ _ _)|apply gives_go (implied_sem _ _ _));(focus (exact DLes.au));(focus exact rfl);(all_goals (exact pre)))));(all_goals exact rfl))|exact side)))
       | ((with_reducible first|apply DrawR.go0|apply KerB.mk);(focus kernel_rfl))
       | (with_reducible first|apply ends_ret|apply ends_norm|apply Halt'.mk)
       | ((with_reducible apply CondD.mk)<;>intro hb<;>(try simp only [SPLT] at hb)<;>(try first|exact noB)))
     all_goals (try exact (false:Bool))
     repeat' ((conv=>whnf);first|exact endR|(with_reducible first|apply And.intro|apply endsO_ret|apply endsO_norm|apply DLes.cons))
     all_goals (conv=>whnf)
    ·omega
 ·rw [if_pos g1]
  clear ha hb h2
  generalize a.err=e1 at h1 g1 ⊢
  obtain ⟨k,ks,p,vs,lo,hi⟩:=a
  obtain ⟨k2,ks2,p2,vs2,lo2,hi2⟩:=b
  rw [Cond.row_mk] at h1 ⊢
  rw [Cond.row_mk]
  refine sem_intro (M:=fun t=>mem t [7,1000051,1000088]) hT hM Tryz.func23 inferInstance rfl rfl rfl rfl rfl rfl ?_
  repeat' (
   (conv=>whnf)
   first
    | ((try ((with_reducible first|apply NumE.go|apply IdxE.go|apply TextE.go|apply LookE.go|apply CallE.go);(conv=>whnf)));(with_reducible apply SideD.mk);(focus (first|((try apply givesl);(focus (first|((apply gives_go (checkCond_sem _));(focus (exact DLes.au));(focus exact rfl);(all_goals (exact pre)))|((first|apply gives_go (bgm_check )|apply gives_go (formulas_sem _ _ _ _)|apply gives_go (table_sem _ _ _ _)|apply gives_go (implied_sem _ _ _));(focus (exact DLes.au));(focus exact rfl);(all_goals (exact pre)))));(all_goals exact rfl))|exact side)))
    | ((with_reducible first|apply DrawR.go0|apply KerB.mk);(focus kernel_rfl))
    | (with_reducible first|apply ends_ret|apply ends_norm|apply Halt'.mk)
    | ((with_reducible apply CondD.mk)<;>intro hb<;>(try simp only [SPLT] at hb)<;>(try first|exact noB)))
  all_goals (try exact (false:Bool))
  refine ht_frzI [14] ?_
  conv=>whnf
  refine loop_go (M:=fun t=>mem t [7,1000051,1000088]) hT hM (fun i:Nat => [(16,.int .i64 i)]) (fun i=>i≤0) (fun i=>2 - i) (0) ?_ ?_ ?_
  ·(conv=>whnf)
   refine ⟨?_,by rfl⟩
   repeat' ((conv=>whnf);first|exact endF|exact endF2|with_reducible apply DLes.cons)
  ·exact Nat.zero_le _
  ·rintro i hi'
   obtain rfl:i=0:=by omega
   repeat' (
    (conv=>whnf)
    first
     | ((try ((with_reducible first|apply NumE.go|apply IdxE.go|apply TextE.go|apply LookE.go|apply CallE.go);(conv=>whnf)));(with_reducible apply SideD.mk);(focus (first|(exact ⟨by decide,rfl⟩)|((try apply givesl);(focus (first|((apply gives_go (h1));(focus (exact DLes.au));(focus exact rfl);(all_goals (exact pre)))|((apply gives_go (checkCond_sem _));(focus (exact DLes.au));(focus exact rfl);(all_goals (exact pre)))|((first|apply gives_go (bgm_check )|apply gives_go (formulas_sem _ _ _ _)|apply gives_go (table_sem _ _ _ _)|apply gives_go (implied_sem _ _ _));(focus (exact DLes.au));(focus exact rfl);(all_goals (exact pre)))));(all_goals exact rfl))|exact side)))
     | ((with_reducible first|apply DrawR.go0|apply KerB.mk);(focus kernel_rfl))
     | (with_reducible first|apply ends_ret|apply ends_norm|apply Halt'.mk)
     | ((with_reducible apply CondD.mk)<;>intro hb<;>(try simp only [SPLT] at hb)<;>(try first|exact noB)))
   all_goals (try exact (false:Bool))
   repeat' ((conv=>whnf);first|exact endR|(with_reducible first|apply And.intro|apply endsO_ret|apply endsO_norm|apply DLes.cons))
   all_goals (conv=>whnf)
end Go.Proofs.YtfolfppcadjccaaGreatDoor
