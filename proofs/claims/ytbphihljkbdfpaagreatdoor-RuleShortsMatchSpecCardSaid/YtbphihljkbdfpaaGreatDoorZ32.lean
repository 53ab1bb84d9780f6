/- Short: the program's and the reference's; RuleShortsMatchSpec (walks). -/
import Derived.Test.YtbphihljkbdfpaaGreatDoorZ26
import Derived.Test.YtbphihljkbdfpaaGreatDoorZ27
import Derived.Test.YtbphihljkbdfpaaGreatDoorZ31
namespace Go.Proofs.YtbphihljkbdfpaaGreatDoor
set_option linter.unusedSimpArgs false
set_option linter.unusedVariables false
open Go.RowKit
set_option maxRecDepth 100000
set_option maxHeartbeats 4000000

def shortN (c : Cond) : Cond × Int :=
 if c.err ≠ 0 then (noneC, c.err) else if c.short.err ≠ 0 then (noneC, c.short.err) else (c.short, 0)
theorem err_size {c : Cond} (ht : c.Txt) (h : c.err = 0) : c.size ≤ 200 := by
 have h1 := (chk_ok c 0 0 (by omega) (by omega) ht h).1
 have h2 := (chk_bd c 0 0 (by omega)).2 h
 omega
theorem err_bare {c : Cond} (h : c.err = 0) : c.Bare := chk_bare c 0 0 h
theorem shortP_sem (c : Cond) (ht : c.Txt) : Sem Tryz.prog 11 [.agg c.row] (.tup [.agg (shortN c).1.row, .int .i64 (shortN c).2]) := by
 have h1 := checkCond_sem c
 have h2 := fun h : c.err = 0 => short_sem c (err_nice ht h) (by have := err_size ht h; omega)
 have h3 := fun h : c.err = 0 => cloneCond_sem c.short (nice_small (n := 200) (by omega) _ (nice_mono (err_size ht h) _ (short_nice c 200 (err_nice ht h))))
 have h4 := checkCond_sem c.short
 unfold shortN
 generalize c.short = d at h2 h3 h4 ⊢
 generalize d.err = e2 at h4 ⊢
 generalize c.err = e1 at h1 h2 h3 ⊢
 obtain ⟨k, ks, p, vs, lo, hi⟩ := c
 obtain ⟨k2, ks2, p2, vs2, lo2, hi2⟩ := d
 rw [Cond.row_mk] at h1 h2 h3 h4 ⊢
 rw [Cond.row_mk] at h2
 by_cases g1 : e1 = 0
 ·subst g1
  have h2 := h2 rfl
  have h3 := h3 rfl
  rw [if_neg (by simp)]
  by_cases g2 : e2 = 0
  ·subst g2
   rw [if_neg (by simp), Cond.row_mk]
   refine sem_intro (M := fun t => mem t [2, 5, 1000048, 1000051, 1000063]) hT hM Tryz.func11 inferInstance rfl rfl rfl rfl rfl rfl ?_
   repeat' (
    (conv => whnf)
    first
     | ((try ((with_reducible first | apply NumE.go | apply IdxE.go | apply TextE.go | apply LookE.go | apply CallE.go); (conv => whnf))); (with_reducible apply SideD.mk); (focus (first | ((try apply givesl); (focus (first | ((apply gives_go (h1)); (focus (exact DLes.au)); (focus exact rfl); (all_goals (exact pre))) | ((apply gives_go (h2)); (focus (exact DLes.au)); (focus exact rfl); (all_goals (exact pre))) | ((apply gives_go (h3)); (focus (exact DLes.au)); (focus exact rfl); (all_goals (exact pre))) | ((apply gives_go (h4)); (focus (exact DLes.au)); (focus exact rfl); (all_goals (exact pre))) | ((apply gives_go (checkCond_sem _)); (focus (exact DLes.au)); (focus exact rfl); (all_goals (exact pre))) | ((apply gives_go (bgm_check )); (focus (exact DLes.au)); (focus exact rfl); (all_goals (exact pre))))); (all_goals exact rfl)) | exact side)))
     | ((with_reducible first | apply DrawR.go0 | apply KerB.mk); (focus kernel_rfl))
     | (with_reducible first | apply ends_ret | apply ends_norm | apply Halt'.mk)
     | ((with_reducible apply CondD.mk) <;> intro hb <;> (try simp only [SPLT] at hb) <;> (try first | exact noB)))
   all_goals (try exact (false : Bool))
   repeat' ((conv => whnf); first | exact endR | (with_reducible first | apply And.intro | apply endsO_ret | apply endsO_norm | apply DLes.cons))
   all_goals (conv => whnf)
   (first | refine rle_agg ?_ | refine dle_agg ?_ | skip)
   repeat' (first | exact endF | exact endF2 | with_reducible apply DLes.cons | with_reducible apply dle_agg)
  ·rw [if_pos g2]
   dsimp only
   rw [noneC, Cond.row_mk]
   refine sem_intro (M := fun t => mem t [2, 5, 1000048, 1000051, 1000063]) hT hM Tryz.func11 inferInstance rfl rfl rfl rfl rfl rfl ?_
   repeat' (
    (conv => whnf)
    first
     | ((try ((with_reducible first | apply NumE.go | apply IdxE.go | apply TextE.go | apply LookE.go | apply CallE.go); (conv => whnf))); (with_reducible apply SideD.mk); (focus (first | ((try apply givesl); (focus (first | ((apply gives_go (h1)); (focus (exact DLes.au)); (focus exact rfl); (all_goals (exact pre))) | ((apply gives_go (h2)); (focus (exact DLes.au)); (focus exact rfl); (all_goals (exact pre))) | ((apply gives_go (h3)); (focus (exact DLes.au)); (focus exact rfl); (all_goals (exact pre))) | ((apply gives_go (h4)); (focus (exact DLes.au)); (focus exact rfl); (all_goals (exact pre))) | ((apply gives_go (checkCond_sem _)); (focus (exact DLes.au)); (focus exact rfl); (all_goals (exact pre))) | ((apply gives_go (bgm_check )); (focus (exact DLes.au)); (focus exact rfl); (all_goals (exact pre))))); (all_goals exact rfl)) | exact side)))
     | ((with_reducible first | apply DrawR.go0 | apply KerB.mk); (focus kernel_rfl))
     | (with_reducible first | apply ends_ret | apply ends_norm | apply Halt'.mk)
     | ((with_reducible apply CondD.mk) <;> intro hb <;> (try simp only [SPLT] at hb) <;> (try first | exact noB)))
   all_goals (try exact (false : Bool))
   repeat' ((conv => whnf); first | exact endR | (with_reducible first | apply And.intro | apply endsO_ret | apply endsO_norm | apply DLes.cons))
   all_goals (conv => whnf)
   (first | refine rle_agg ?_ | refine dle_agg ?_ | skip)
   repeat' (first | exact endF | exact endF2 | with_reducible apply DLes.cons | with_reducible apply dle_agg)
 ·rw [if_pos g1]
  dsimp only
  rw [noneC, Cond.row_mk]
  refine sem_intro (M := fun t => mem t [2, 5, 1000048, 1000051, 1000063]) hT hM Tryz.func11 inferInstance rfl rfl rfl rfl rfl rfl ?_
  repeat' (
   (conv => whnf)
   first
    | ((try ((with_reducible first | apply NumE.go | apply IdxE.go | apply TextE.go | apply LookE.go | apply CallE.go); (conv => whnf))); (with_reducible apply SideD.mk); (focus (first | ((try apply givesl); (focus (first | ((apply gives_go (h1)); (focus (exact DLes.au)); (focus exact rfl); (all_goals (exact pre))) | ((apply gives_go (checkCond_sem _)); (focus (exact DLes.au)); (focus exact rfl); (all_goals (exact pre))) | ((apply gives_go (bgm_check )); (focus (exact DLes.au)); (focus exact rfl); (all_goals (exact pre))))); (all_goals exact rfl)) | exact side)))
    | ((with_reducible first | apply DrawR.go0 | apply KerB.mk); (focus kernel_rfl))
    | (with_reducible first | apply ends_ret | apply ends_norm | apply Halt'.mk)
    | ((with_reducible apply CondD.mk) <;> intro hb <;> (try simp only [SPLT] at hb) <;> (try first | exact noB)))
  all_goals (try exact (false : Bool))
  repeat' ((conv => whnf); first | exact endR | (with_reducible first | apply And.intro | apply endsO_ret | apply endsO_norm | apply DLes.cons))
  all_goals (conv => whnf)
  (first | refine rle_agg ?_ | refine dle_agg ?_ | skip)
  repeat' (first | exact endF | exact endF2 | with_reducible apply DLes.cons | with_reducible apply dle_agg)
theorem shortR_sem (c : Cond) (ht : c.Txt) : Sem Tryz.prog 12 [.agg c.row] (.tup [.agg (shortN c).1.row, .int .i64 (shortN c).2]) := by
 have h1 := checkCond4_sem c ht
 have h2 := fun h : c.err = 0 => short4_sem c (err_nice ht h) (err_bare h) (by have := err_size ht h; omega)
 have h4 := fun h : c.err = 0 => checkCond4_sem c.short (nice_txt _ (short_nice c 200 (err_nice ht h)))
 unfold shortN
 generalize c.short = d at h2 h4 ⊢
 generalize d.err = e2 at h4 ⊢
 generalize c.err = e1 at h1 h2 h4 ⊢
 obtain ⟨k, ks, p, vs, lo, hi⟩ := c
 obtain ⟨k2, ks2, p2, vs2, lo2, hi2⟩ := d
 rw [Cond.row_mk] at h1 h2 h4 ⊢
 rw [Cond.row_mk] at h2
 by_cases g1 : e1 = 0
 ·subst g1
  have h2 := h2 rfl
  have h4 := h4 rfl
  rw [if_neg (by simp)]
  by_cases g2 : e2 = 0
  ·subst g2
   rw [if_neg (by simp), Cond.row_mk]
   refine sem_intro (M := fun t => mem t [2, 5, 1000048, 1000051, 1000063]) hT hM Tryz.func12 inferInstance rfl rfl rfl rfl rfl rfl ?_
   repeat' (
    (conv => whnf)
    first
     | ((try ((with_reducible first | apply NumE.go | apply IdxE.go | apply TextE.go | apply LookE.go | apply CallE.go); (conv => whnf))); (with_reducible apply SideD.mk); (focus (first | ((try apply givesl); (focus (first | ((apply gives_go (h1)); (focus (exact DLes.au)); (focus exact rfl); (all_goals (exact pre))) | ((apply gives_go (h2)); (focus (exact DLes.au)); (focus exact rfl); (all_goals (exact pre))) | ((apply gives_go (h4)); (focus (exact DLes.au)); (focus exact rfl); (all_goals (exact pre))) | ((apply gives_go (checkCond4_sem _ _)); (focus (exact DLes.au)); (focus exact rfl); (all_goals (exact pre))))); (all_goals exact rfl)) | exact side)))
     | ((with_reducible first | apply DrawR.go0 | apply KerB.mk); (focus kernel_rfl))
     | (with_reducible first | apply ends_ret | apply ends_norm | apply Halt'.mk)
     | ((with_reducible apply CondD.mk) <;> intro hb <;> (try simp only [SPLT] at hb) <;> (try first | exact noB)))
   all_goals (try exact (false : Bool))
   repeat' ((conv => whnf); first | exact endR | (with_reducible first | apply And.intro | apply endsO_ret | apply endsO_norm | apply DLes.cons))
   all_goals (conv => whnf)
   (first | refine rle_agg ?_ | refine dle_agg ?_ | skip)
   repeat' (first | exact endF | exact endF2 | with_reducible apply DLes.cons | with_reducible apply dle_agg)
  ·rw [if_pos g2]
   dsimp only
   rw [noneC, Cond.row_mk]
   refine sem_intro (M := fun t => mem t [2, 5, 1000048, 1000051, 1000063]) hT hM Tryz.func12 inferInstance rfl rfl rfl rfl rfl rfl ?_
   repeat' (
    (conv => whnf)
    first
     | ((try ((with_reducible first | apply NumE.go | apply IdxE.go | apply TextE.go | apply LookE.go | apply CallE.go); (conv => whnf))); (with_reducible apply SideD.mk); (focus (first | ((try apply givesl); (focus (first | ((apply gives_go (h1)); (focus (exact DLes.au)); (focus exact rfl); (all_goals (exact pre))) | ((apply gives_go (h2)); (focus (exact DLes.au)); (focus exact rfl); (all_goals (exact pre))) | ((apply gives_go (h4)); (focus (exact DLes.au)); (focus exact rfl); (all_goals (exact pre))) | ((apply gives_go (checkCond4_sem _ _)); (focus (exact DLes.au)); (focus exact rfl); (all_goals (exact pre))))); (all_goals exact rfl)) | exact side)))
     | ((with_reducible first | apply DrawR.go0 | apply KerB.mk); (focus kernel_rfl))
     | (with_reducible first | apply ends_ret | apply ends_norm | apply Halt'.mk)
     | ((with_reducible apply CondD.mk) <;> intro hb <;> (try simp only [SPLT] at hb) <;> (try first | exact noB)))
   all_goals (try exact (false : Bool))
   repeat' ((conv => whnf); first | exact endR | (with_reducible first | apply And.intro | apply endsO_ret | apply endsO_norm | apply DLes.cons))
   all_goals (conv => whnf)
   (first | refine rle_agg ?_ | refine dle_agg ?_ | skip)
   repeat' (first | exact endF | exact endF2 | with_reducible apply DLes.cons | with_reducible apply dle_agg)
 ·rw [if_pos g1]
  dsimp only
  rw [noneC, Cond.row_mk]
  refine sem_intro (M := fun t => mem t [2, 5, 1000048, 1000051, 1000063]) hT hM Tryz.func12 inferInstance rfl rfl rfl rfl rfl rfl ?_
  repeat' (
   (conv => whnf)
   first
    | ((try ((with_reducible first | apply NumE.go | apply IdxE.go | apply TextE.go | apply LookE.go | apply CallE.go); (conv => whnf))); (with_reducible apply SideD.mk); (focus (first | ((try apply givesl); (focus (first | ((apply gives_go (h1)); (focus (exact DLes.au)); (focus exact rfl); (all_goals (exact pre))) | ((apply gives_go (checkCond4_sem _ _)); (focus (exact DLes.au)); (focus exact rfl); (all_goals (exact pre))))); (all_goals exact rfl)) | exact side)))
    | ((with_reducible first | apply DrawR.go0 | apply KerB.mk); (focus kernel_rfl))
    | (with_reducible first | apply ends_ret | apply ends_norm | apply Halt'.mk)
    | ((with_reducible apply CondD.mk) <;> intro hb <;> (try simp only [SPLT] at hb) <;> (try first | exact noB)))
  all_goals (try exact (false : Bool))
  repeat' ((conv => whnf); first | exact endR | (with_reducible first | apply And.intro | apply endsO_ret | apply endsO_norm | apply DLes.cons))
  all_goals (conv => whnf)
  (first | refine rle_agg ?_ | refine dle_agg ?_ | skip)
  repeat' (first | exact endF | exact endF2 | with_reducible apply DLes.cons | with_reducible apply dle_agg)
theorem law20_sem (c : Cond) (path : Str) (ht : c.Txt) (hp : path.length ≤ 9223372036854775807) : Sem Tryz.prog 4 [.agg c.row, .str path] (.bool true) := by
 have h1 := shortP_sem c ht
 have h2 := shortR_sem c ht
 have h3 := under_sem c path ht
 have h4 := under4_sem c path ht hp
 generalize shortN c = r at h1 h2
 generalize underN c path = u at h3 h4
 obtain ⟨⟨k1, ks1, p1, vs1, lo1, hi1⟩, e1⟩ := r
 obtain ⟨⟨k2, ks2, p2, vs2, lo2, hi2⟩, e2⟩ := u
 have h5 := same_sem (.mk k1 ks1 p1 vs1 lo1 hi1) (.mk k1 ks1 p1 vs1 lo1 hi1)
 rw [(Cond.same_iff _ _).2 rfl] at h5
 have h6 := same_sem (.mk k2 ks2 p2 vs2 lo2 hi2) (.mk k2 ks2 p2 vs2 lo2 hi2)
 rw [(Cond.same_iff _ _).2 rfl] at h6
 have h7 := awake4_sem
 obtain ⟨k, ks, p, vs, lo, hi⟩ := c
 dsimp only at h1 h2 h3 h4
 rw [Cond.row_mk] at h1 h2 h3 h4 h5 h6 ⊢
 rw [Cond.row_mk] at h1 h2 h3 h4
 refine sem_intro (M := fun t => mem t [5, 7, 9, 11, 1000048, 1000051, 1000063]) hT hM Tryz.func4 inferInstance rfl rfl rfl rfl rfl rfl ?_
 repeat' (
  (conv => whnf)
  first
   | ((try ((with_reducible first | apply NumE.go | apply IdxE.go | apply TextE.go | apply LookE.go | apply CallE.go); (conv => whnf))); (with_reducible apply SideD.mk); (focus ((first | (intro hc; have hc0 := hc; (try simp only [SPLT] at hc); (try refine And.intro (by first | exact hc0 | exact ⟨hc0, hc0⟩ | exact ⟨hc0, hc0, hc0⟩) ?_)) | skip); first | ((try apply givesl); (focus (first | ((apply gives_go (h1)); (focus (exact DLes.au)); (focus exact rfl); (all_goals (exact pre))) | ((apply gives_go (h2)); (focus (exact DLes.au)); (focus exact rfl); (all_goals (exact pre))) | ((apply gives_go (h3)); (focus (exact DLes.au)); (focus exact rfl); (all_goals (exact pre))) | ((apply gives_go (h4)); (focus (exact DLes.au)); (focus exact rfl); (all_goals (exact pre))) | ((apply gives_go (h5)); (focus (exact DLes.au)); (focus exact rfl); (all_goals (exact pre))) | ((apply gives_go (h6)); (focus (exact DLes.au)); (focus exact rfl); (all_goals (exact pre))) | ((apply gives_go (h7)); (focus (exact DLes.au)); (focus exact rfl); (all_goals (exact pre))) | ((first | apply gives_go (shortP_sem _ _) | apply gives_go (shortR_sem _ _) | apply gives_go (under_sem _ _ _) | apply gives_go (under4_sem _ _ _ _) | apply gives_go (awake4_sem )); (focus (exact DLes.au)); (focus exact rfl); (all_goals (exact pre))))); (all_goals exact rfl)) | exact sideG)))
   | ((with_reducible first | apply DrawR.go0 | apply KerB.mk); (focus kernel_rfl))
   | (with_reducible first | apply ends_ret | apply ends_norm | apply Halt'.mk)
   | ((with_reducible apply CondD.mk) <;> intro hb <;> (try simp only [SPLT] at hb) <;> (try first | exact noB)))
 all_goals (try exact (false : Bool))
 repeat' ((conv => whnf); first | exact endR | (with_reducible first | apply And.intro | apply endsO_ret | apply endsO_norm | apply DLes.cons))
 all_goals (conv => whnf)
 exact rle_bool (by simp)
end Go.Proofs.YtbphihljkbdfpaaGreatDoor
