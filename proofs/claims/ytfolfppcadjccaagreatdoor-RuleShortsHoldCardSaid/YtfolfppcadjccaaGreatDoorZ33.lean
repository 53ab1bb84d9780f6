/- Short: the program's (walk). RuleShortsHold: the law's walk. -/
import Derived.Test.YtfolfppcadjccaaGreatDoorZ32
import Derived.Test.YtfolfppcadjccaaGreatDoorZ27
import Derived.Test.YtfolfppcadjccaaGreatDoorZ26
import Derived.Test.YtfolfppcadjccaaGreatDoorZ30
import Derived.Test.YtfolfppcadjccaaGreatDoorZ9
import Derived.Test.YtfolfppcadjccaaGreatDoorZ16
namespace Go.Proofs.YtfolfppcadjccaaGreatDoor
set_option linter.unusedSimpArgs false
set_option linter.unusedVariables false
open Go.RowKit
set_option maxRecDepth 100000
set_option maxHeartbeats 4000000
def shortN (c:Cond):Cond × Int:=
 if c.err ≠ 0 then (noneC,c.err) else if c.short.err ≠ 0 then (noneC,c.short.err) else (c.short,0)
theorem err_size {c:Cond} (ht:c.Txt) (h:c.err=0):c.size≤200:=by
 have h1:=(chk_ok c 0 0 (by omega) (by omega) ht h).1
 have h2:=(chk_bd c 0 0 (by omega)).2 h
 omega
theorem shortP_sem (c:Cond) (ht:c.Txt):Sem Tryz.prog 21 [.agg c.row] (.tup [.agg (shortN c).1.row,.int .i64 (shortN c).2]):=by
 have h1:=checkCond_sem c
 have h2:=fun h:c.err=0=>short_sem c (err_nice ht h) (by have:=err_size ht h;omega)
 have h3:=fun h:c.err=0=>cloneCond_sem c.short (nice_small (n:=200) (by omega) _ (nice_mono (err_size ht h) _ (short_nice c 200 (err_nice ht h))))
 have h4:=checkCond_sem c.short
 unfold shortN
 generalize c.short=d at h2 h3 h4 ⊢
 generalize d.err=e2 at h4 ⊢
 generalize c.err=e1 at h1 h2 h3 ⊢
 obtain ⟨k,ks,p,vs,lo,hi⟩:=c
 obtain ⟨k2,ks2,p2,vs2,lo2,hi2⟩:=d
 rw [Cond.row_mk] at h1 h2 h3 h4 ⊢
 rw [Cond.row_mk] at h2
 by_cases g1:e1=0
 ·subst g1
  have h2:=h2 rfl
  have h3:=h3 rfl
  rw [if_neg (by simp)]
  by_cases g2:e2=0
  ·subst g2
   rw [if_neg (by simp),Cond.row_mk]
   refine sem_intro (M:=fun t=>mem t [2,5,1000051,1000088]) hT hM Tryz.func21 inferInstance rfl rfl rfl rfl rfl rfl ?_
   repeat' (
    (conv=>whnf)
    first
     | ((try ((with_reducible first|apply NumE.go|apply IdxE.go|apply TextE.go|apply LookE.go|apply CallE.go);(conv=>whnf)));(with_reducible apply SideD.mk);(focus (first|((try apply givesl);(focus (first|((apply gives_go (h1));(focus (exact DLes.au));(focus exact rfl);(all_goals (exact pre)))|((apply gives_go (h2));(focus (exact DLes.au));(focus exact rfl);(all_goals (exact pre)))|((apply gives_go (h3));(focus (exact DLes.au));(focus exact rfl);(all_goals (exact pre)))|((apply gives_go (h4));(focus (exact DLes.au));(focus exact rfl);(all_goals (exact pre)))|((apply gives_go (checkCond_sem _));(focus (exact DLes.au));(focus exact rfl);(all_goals (exact pre)))|((apply gives_go (bgm_check ));(focus (exact DLes.au));(focus exact rfl);(all_goals (exact pre)))));(all_goals exact rfl))|exact side)))
     | ((with_reducible first|apply DrawR.go0|apply KerB.mk);(focus kernel_rfl))
     | (with_reducible first|apply ends_ret|apply ends_norm|apply Halt'.mk)
     | ((with_reducible apply CondD.mk)<;>intro hb<;>(try simp only [SPLT] at hb)<;>(try first|exact noB)))
   all_goals (try exact (false:Bool))
   repeat' ((conv=>whnf);first|exact endR|(with_reducible first|apply And.intro|apply endsO_ret|apply endsO_norm|apply DLes.cons))
   all_goals (conv=>whnf)
   (first|refine rle_agg ?_|refine dle_agg ?_|skip)
   repeat' (first|exact endF|exact endF2|with_reducible apply DLes.cons|with_reducible apply dle_agg)
  ·rw [if_pos g2]
   dsimp only
   rw [noneC,Cond.row_mk]
   refine sem_intro (M:=fun t=>mem t [2,5,1000051,1000088]) hT hM Tryz.func21 inferInstance rfl rfl rfl rfl rfl rfl ?_
   repeat' (
    (conv=>whnf)
    first
     | ((try ((with_reducible first|apply NumE.go|apply IdxE.go|apply TextE.go|apply LookE.go|apply CallE.go);(conv=>whnf)));(with_reducible apply SideD.mk);(focus (first|((try apply givesl);(focus (first|((apply gives_go (h1));(focus (exact DLes.au));(focus exact rfl);(all_goals (exact pre)))|((apply gives_go (h2));(focus (exact DLes.au));(focus exact rfl);(all_goals (exact pre)))|((apply gives_go (h3));(focus (exact DLes.au));(focus exact rfl);(all_goals (exact pre)))|((apply gives_go (h4));(focus (exact DLes.au));(focus exact rfl);(all_goals (exact pre)))|((apply gives_go (checkCond_sem _));(focus (exact DLes.au));(focus exact rfl);(all_goals (exact pre)))|((apply gives_go (bgm_check ));(focus (exact DLes.au));(focus exact rfl);(all_goals (exact pre)))));(all_goals exact rfl))|exact side)))
     | ((with_reducible first|apply DrawR.go0|apply KerB.mk);(focus kernel_rfl))
     | (with_reducible first|apply ends_ret|apply ends_norm|apply Halt'.mk)
     | ((with_reducible apply CondD.mk)<;>intro hb<;>(try simp only [SPLT] at hb)<;>(try first|exact noB)))
   all_goals (try exact (false:Bool))
   repeat' ((conv=>whnf);first|exact endR|(with_reducible first|apply And.intro|apply endsO_ret|apply endsO_norm|apply DLes.cons))
   all_goals (conv=>whnf)
   (first|refine rle_agg ?_|refine dle_agg ?_|skip)
   repeat' (first|exact endF|exact endF2|with_reducible apply DLes.cons|with_reducible apply dle_agg)
 ·rw [if_pos g1]
  dsimp only
  rw [noneC,Cond.row_mk]
  refine sem_intro (M:=fun t=>mem t [2,5,1000051,1000088]) hT hM Tryz.func21 inferInstance rfl rfl rfl rfl rfl rfl ?_
  repeat' (
   (conv=>whnf)
   first
    | ((try ((with_reducible first|apply NumE.go|apply IdxE.go|apply TextE.go|apply LookE.go|apply CallE.go);(conv=>whnf)));(with_reducible apply SideD.mk);(focus (first|((try apply givesl);(focus (first|((apply gives_go (h1));(focus (exact DLes.au));(focus exact rfl);(all_goals (exact pre)))|((apply gives_go (checkCond_sem _));(focus (exact DLes.au));(focus exact rfl);(all_goals (exact pre)))|((apply gives_go (bgm_check ));(focus (exact DLes.au));(focus exact rfl);(all_goals (exact pre)))));(all_goals exact rfl))|exact side)))
    | ((with_reducible first|apply DrawR.go0|apply KerB.mk);(focus kernel_rfl))
    | (with_reducible first|apply ends_ret|apply ends_norm|apply Halt'.mk)
    | ((with_reducible apply CondD.mk)<;>intro hb<;>(try simp only [SPLT] at hb)<;>(try first|exact noB)))
  all_goals (try exact (false:Bool))
  repeat' ((conv=>whnf);first|exact endR|(with_reducible first|apply And.intro|apply endsO_ret|apply endsO_norm|apply DLes.cons))
  all_goals (conv=>whnf)
  (first|refine rle_agg ?_|refine dle_agg ?_|skip)
  repeat' (first|exact endF|exact endF2|with_reducible apply DLes.cons|with_reducible apply dle_agg)
end Go.Proofs.YtfolfppcadjccaaGreatDoor
namespace Go.Proofs.YtfolfppcadjccaaGreatDoor
set_option linter.unusedSimpArgs false
set_option linter.unusedVariables false
open Go.RowKit
set_option maxRecDepth 100000
set_option maxHeartbeats 4000000
theorem short_txt {c:Cond} (ht:c.Txt) (h:c.err=0):c.short.Txt:=nice_txt (n:=c.size) _ (short_nice c 200 (err_nice ht h))
theorem law31_sem (c:Cond) (t:List Br) (ht:c.Txt) (hl:t.length≤9223372036854775807) (htt:∀ b ∈ t,b.Txt):Sem Tryz.prog 7 [.agg c.row,.sl 0 4 (t.map Br.row)] (.bool true):=by
 have h1:=shortP_sem c ht
 have h7:=awake4_sem
 unfold shortN at h1
 by_cases g1:c.err=0
 ·rw [if_neg (by simpa using g1)] at h1
  by_cases g2:c.short.err=0
  ·rw [if_neg (by simpa using g2)] at h1
   have h2:=shortP_sem c.short (short_txt ht g1)
   have hss:=short_short (err_fm g1)
   unfold shortN at h2
   rw [if_neg (by simpa using g2),hss,if_neg (by simpa using g2)] at h2
   have h3:=same_sem c.short c.short
   rw [(Cond.same_iff _ _).2 rfl] at h3
   have h4:=Holds_sem c t hl htt
   have h5:=Holds_sem c.short t hl htt
   have e5:holdsN c.short t=holdsN c t:=by
    unfold holdsN
    rw [if_neg (show ¬ c.short.err ≠ 0 by simpa using g2),if_neg (show ¬ c.err ≠ 0 by simpa using g1),short_holds c (err_fm g1)]
   rw [e5] at h5
   generalize holdsN c t=r at h4 h5
   generalize c.short=d at h1 h2 h3 h5
   obtain ⟨k,ks,p,vs,lo,hi⟩:=c
   obtain ⟨k2,ks2,p2,vs2,lo2,hi2⟩:=d
   dsimp only at h1 h2
   rw [Cond.row_mk] at h1 h2 h3 h4 h5 ⊢
   rw [Cond.row_mk] at h1
   refine sem_intro (M:=fun t=>mem t [1000051,1000052,1000088,1000096]) hT hM Tryz.func7 inferInstance rfl rfl rfl rfl rfl rfl ?_
   repeat' (
    (conv=>whnf)
    first
     | ((try ((with_reducible first|apply NumE.go|apply IdxE.go|apply TextE.go|apply LookE.go|apply CallE.go);(conv=>whnf)));(with_reducible apply SideD.mk);(focus ((first|(intro hc;have hc0:=hc;(try simp only [SPLT] at hc);(try refine And.intro (by first|exact hc0|exact ⟨hc0,hc0⟩|exact ⟨hc0,hc0,hc0⟩) ?_))|skip);first|((try apply givesl);(focus (first|((apply gives_go (h1));(focus (exact DLes.au));(focus exact rfl);(all_goals (exact pre)))|((apply gives_go (h2));(focus (exact DLes.au));(focus exact rfl);(all_goals (exact pre)))|((apply gives_go (h3));(focus (exact DLes.au));(focus exact rfl);(all_goals (exact pre)))|((apply gives_go (h4));(focus (exact DLes.au));(focus exact rfl);(all_goals (exact pre)))|((apply gives_go (h5));(focus (exact DLes.au));(focus exact rfl);(all_goals (exact pre)))|((apply gives_go (h7));(focus (exact DLes.au));(focus exact rfl);(all_goals (exact pre)))|((first|apply gives_go (shortP_sem _ _)|apply gives_go (awake4_sem )|apply gives_go (Holds_sem _ _ _ _));(focus (exact DLes.au));(focus exact rfl);(all_goals (exact pre)))));(all_goals exact rfl))|exact sideG)))
     | ((with_reducible first|apply DrawR.go0|apply KerB.mk);(focus kernel_rfl))
     | (with_reducible first|apply ends_ret|apply ends_norm|apply Halt'.mk)
     | ((with_reducible apply CondD.mk)<;>intro hb<;>(try simp only [SPLT] at hb)<;>(try first|exact noB)))
   all_goals (try exact (false:Bool))
   repeat' ((conv=>whnf);first|exact endR|(with_reducible first|apply And.intro|apply endsO_ret|apply endsO_norm|apply DLes.cons))
   all_goals (conv=>whnf)
   exact rle_bool (by simp)
  ·rw [if_pos g2] at h1
   dsimp only [noneC] at h1
   obtain ⟨k,ks,p,vs,lo,hi⟩:=c
   rw [Cond.row_mk] at h1 ⊢
   rw [Cond.row_mk] at h1
   refine sem_intro (M:=fun t=>mem t [1000051,1000052,1000088,1000096]) hT hM Tryz.func7 inferInstance rfl rfl rfl rfl rfl rfl ?_
   repeat' (
    (conv=>whnf)
    first
     | ((try ((with_reducible first|apply NumE.go|apply IdxE.go|apply TextE.go|apply LookE.go|apply CallE.go);(conv=>whnf)));(with_reducible apply SideD.mk);(focus ((first|(intro hc;have hc0:=hc;(try simp only [SPLT] at hc);(try refine And.intro (by first|exact hc0|exact ⟨hc0,hc0⟩|exact ⟨hc0,hc0,hc0⟩) ?_))|skip);first|((try apply givesl);(focus (first|((apply gives_go (h1));(focus (exact DLes.au));(focus exact rfl);(all_goals (exact pre)))|((apply gives_go (h7));(focus (exact DLes.au));(focus exact rfl);(all_goals (exact pre)))|((first|apply gives_go (shortP_sem _ _)|apply gives_go (awake4_sem )|apply gives_go (Holds_sem _ _ _ _));(focus (exact DLes.au));(focus exact rfl);(all_goals (exact pre)))));(all_goals exact rfl))|exact sideG)))
     | ((with_reducible first|apply DrawR.go0|apply KerB.mk);(focus kernel_rfl))
     | (with_reducible first|apply ends_ret|apply ends_norm|apply Halt'.mk)
     | ((with_reducible apply CondD.mk)<;>intro hb<;>(try simp only [SPLT] at hb)<;>(try first|exact noB)))
   all_goals (try exact (false:Bool))
   repeat' ((conv=>whnf);first|exact endR|(with_reducible first|apply And.intro|apply endsO_ret|apply endsO_norm|apply DLes.cons))
   all_goals (conv=>whnf)
 ·rw [if_pos g1] at h1
  dsimp only [noneC] at h1
  generalize c.err=e1 at h1 g1
  obtain ⟨k,ks,p,vs,lo,hi⟩:=c
  rw [Cond.row_mk] at h1 ⊢
  rw [Cond.row_mk] at h1
  refine sem_intro (M:=fun t=>mem t [1000051,1000052,1000088,1000096]) hT hM Tryz.func7 inferInstance rfl rfl rfl rfl rfl rfl ?_
  repeat' (
   (conv=>whnf)
   first
    | ((try ((with_reducible first|apply NumE.go|apply IdxE.go|apply TextE.go|apply LookE.go|apply CallE.go);(conv=>whnf)));(with_reducible apply SideD.mk);(focus ((first|(intro hc;have hc0:=hc;(try simp only [SPLT] at hc);(try refine And.intro (by first|exact hc0|exact ⟨hc0,hc0⟩|exact ⟨hc0,hc0,hc0⟩) ?_))|skip);first|((try apply givesl);(focus (first|((apply gives_go (h1));(focus (exact DLes.au));(focus exact rfl);(all_goals (exact pre)))|((apply gives_go (h7));(focus (exact DLes.au));(focus exact rfl);(all_goals (exact pre)))|((first|apply gives_go (shortP_sem _ _)|apply gives_go (awake4_sem )|apply gives_go (Holds_sem _ _ _ _));(focus (exact DLes.au));(focus exact rfl);(all_goals (exact pre)))));(all_goals exact rfl))|exact sideG)))
    | ((with_reducible first|apply DrawR.go0|apply KerB.mk);(focus kernel_rfl))
    | (with_reducible first|apply ends_ret|apply ends_norm|apply Halt'.mk)
    | ((with_reducible apply CondD.mk)<;>intro hb<;>(try simp only [SPLT] at hb)<;>(try first|exact noB)))
  all_goals (try exact (false:Bool))
  repeat' ((conv=>whnf);first|exact endR|(with_reducible first|apply And.intro|apply endsO_ret|apply endsO_norm|apply DLes.cons))
  all_goals (conv=>whnf)
end Go.Proofs.YtfolfppcadjccaaGreatDoor
