/- Conditions are right: the reference's check of all parts (walks). -/
import Derived.Test.YtbphihljkbdfpaaGreatDoorZ29
namespace Go.Proofs.YtbphihljkbdfpaaGreatDoor
set_option linter.unusedSimpArgs false
set_option linter.unusedVariables false
open Go.RowKit
set_option maxRecDepth 100000
set_option maxHeartbeats 4000000

theorem check_sem (c : Cond) : c.Txt → ∀ d n : Int, 0 ≤ n → n ≤ 200 → 0 ≤ d → d ≤ 1000 → Sem Tryz.prog 65 [.agg c.row, .int .i64 d, .int .i64 n] (.tup [.int .i64 (c.chk d n).1, .int .i64 (c.chk d n).2]) := by
 induction c using Cond.ind with
 | h k ks p vs lo hi ih =>
  intro ht d n hn0 hn hd0 hd
  obtain ⟨_, hvs, hks⟩ := ht
  have h1 := checkNode_sem k (ks.map Cond.row) p vs lo hi hvs
  rw [List.length_map] at h1
  rw [chk_mk, Cond.row_mk]
  generalize ownErr k ks.length p vs lo hi = e at h1 ⊢
  generalize hr : (if 200 < n + 1 ∨ 6 < d then (n + 1, (2 : Int)) else if e ≠ 0 then (n + 1, e) else Cond.chks ks (d + 1) (n + 1)) = r
  refine sem_intro (M := fun t => mem t [1000063]) hT hM Tryz.func65 inferInstance rfl rfl rfl rfl rfl rfl ?_
  repeat' (
   (conv => whnf)
   first
    | ((try ((with_reducible first | apply NumE.go | apply IdxE.go | apply TextE.go | apply LookE.go | apply CallE.go); (conv => whnf))); (with_reducible apply SideD.mk); (focus ((first | (intro hc; have hc0 := hc; (try simp only [SPLT] at hc); (try refine And.intro (by first | exact hc0 | exact ⟨hc0, hc0⟩ | exact ⟨hc0, hc0, hc0⟩) ?_)) | skip); first | ((try apply givesl); (focus (first | ((apply gives_go (h1)); (focus (exact DLes.au)); (focus exact rfl); (all_goals (exact pre))) | ((apply gives_go (checkNode_sem _ _ _ _ _ _ _)); (focus (exact DLes.au)); (focus exact rfl); (all_goals (exact pre))))); (all_goals exact rfl)) | exact sideG)))
    | ((with_reducible first | apply DrawR.go0 | apply KerB.mk); (focus kernel_rfl))
    | (with_reducible first | apply ends_ret | apply ends_norm | apply Halt'.mk)
    | ((with_reducible apply CondD.mk) <;> intro hb <;> (try simp only [SPLT] at hb) <;> (try first | exact noB)))
  all_goals (try exact (false : Bool))
  ·rw [if_pos (by omega)] at hr
   subst hr
   repeat' ((conv => whnf); first | exact endR | (with_reducible first | apply And.intro | apply endsO_ret | apply endsO_norm | apply DLes.cons))
   all_goals (conv => whnf)
  ·rw [if_neg (by omega), if_pos (by omega)] at hr
   subst hr
   repeat' ((conv => whnf); first | exact endR | (with_reducible first | apply And.intro | apply endsO_ret | apply endsO_norm | apply DLes.cons))
   all_goals (conv => whnf)
  ·have hll : (ks.map Cond.row).length = ks.length := List.length_map _
   rw [if_neg (by omega), if_neg (by omega)] at hr
   refine loop_go (M := fun t => mem t [0, 1000063]) hT hM (fun x : Nat × Int => [(9, .int .i64 x.1), (2, .int .i64 x.2)]) (fun x => x.1 ≤ ks.length ∧ n + 1 + x.1 ≤ x.2 ∧ x.2 ≤ 200 ∧ Cond.chks (ks.drop x.1) (d + 1) x.2 = r) (fun x => ks.length - x.1) ((0, n + 1)) ?_ ?_ ?_
   ·(conv => whnf)
    refine ⟨?_, by rfl⟩
    repeat' ((conv => whnf); first | exact endF | exact endF2 | with_reducible apply DLes.cons)
   ·exact ⟨Nat.zero_le _, by dsimp only; omega, by dsimp only; omega, hr⟩
   ·rintro ⟨i, m⟩ ⟨hi, hm1, hm2, hv⟩
    dsimp only at hi hm1 hm2 hv ⊢
    cases hx : ks[i]? with
    | none =>
     have hm := List.getElem?_eq_none_iff.1 hx
     rw [List.drop_of_length_le hm, chks_nil] at hv
     subst hv
     repeat' (
      (conv => whnf)
      first
       | ((try ((with_reducible first | apply NumE.go | apply IdxE.go | apply TextE.go | apply LookE.go | apply CallE.go); (conv => whnf))); (with_reducible apply SideD.mk); (focus ((first | (intro hc; have hc0 := hc; (try simp only [SPLT] at hc); (try refine And.intro (by first | exact hc0 | exact ⟨hc0, hc0⟩ | exact ⟨hc0, hc0, hc0⟩) ?_)) | skip); first | ((try apply givesl); (focus (((apply gives_go (checkNode_sem _ _ _ _ _ _ _)); (focus (exact DLes.au)); (focus exact rfl); (all_goals (exact pre))))); (all_goals exact rfl)) | exact sideG)))
       | ((with_reducible first | apply DrawR.go0 | apply KerB.mk); (focus kernel_rfl))
       | (with_reducible first | apply ends_ret | apply ends_norm | apply Halt'.mk)
       | ((with_reducible apply CondD.mk) <;> intro hb <;> (try simp only [SPLT] at hb) <;> (try first | exact noB)))
     all_goals (try exact (false : Bool))
     repeat' ((conv => whnf); first | exact endR | (with_reducible first | apply And.intro | apply endsO_ret | apply endsO_norm | apply DLes.cons))
     all_goals (conv => whnf)
    | some x =>
     have hlt := (List.getElem?_eq_some_iff.1 hx).1
     obtain ⟨hb1, hb2⟩ := chk_bd x (d + 1) m hm2
     have ih' := ih x (List.mem_of_getElem? hx) (hks x (List.mem_of_getElem? hx)) (d + 1) m (by omega) hm2 (by omega) (by omega)
     rw [chks_at hx] at hv
     generalize x.chk (d + 1) m = y at hv ih' hb1 hb2
     obtain ⟨m2, e2⟩ := y
     obtain ⟨k1, ks1, p1, vs1, lo1, hi1⟩ := x
     rw [Cond.row_mk] at ih'
     dsimp only at hv ih' hb1 hb2
     repeat' (
      (conv => whnf)
      first
       | ((try ((with_reducible first | apply NumE.go | apply IdxE.go | apply TextE.go | apply LookE.go | apply CallE.go); (conv => whnf))); (with_reducible apply SideD.mk); (focus ((first | (intro hc; have hc0 := hc; (try simp only [SPLT] at hc); (try refine And.intro (by first | exact hc0 | exact ⟨hc0, hc0⟩ | exact ⟨hc0, hc0, hc0⟩) ?_)) | skip); first | (exact idx_row hx rfl) | ((try apply givesl); (focus (first | ((apply gives_go (ih')); (focus (exact DLes.au)); (focus exact rfl); (all_goals (exact pre))) | ((apply gives_go (checkNode_sem _ _ _ _ _ _ _)); (focus (exact DLes.au)); (focus exact rfl); (all_goals (exact pre))))); (all_goals exact rfl)) | exact sideG)))
       | ((with_reducible first | apply DrawR.go0 | apply KerB.mk); (focus kernel_rfl))
       | (with_reducible first | apply ends_ret | apply ends_norm | apply Halt'.mk)
       | ((with_reducible apply CondD.mk) <;> intro hb <;> (try simp only [SPLT] at hb) <;> (try first | exact noB)))
     all_goals (try exact (false : Bool))
     ·rw [if_pos (by omega)] at hv
      subst hv
      repeat' ((conv => whnf); first | exact endR | (with_reducible first | apply And.intro | apply endsO_ret | apply endsO_norm | apply DLes.cons))
      all_goals (conv => whnf)
     ·rw [if_neg (by omega)] at hv
      refine ⟨(i + 1, m2), ⟨by dsimp only; omega, by dsimp only; omega, by dsimp only; omega, hv⟩, by dsimp only; omega, ?_⟩
      (conv => whnf)
      refine ⟨?_, by rfl⟩
      repeat' ((conv => whnf); first | exact endF | exact endF2 | with_reducible apply DLes.cons)
theorem checkCond4_sem (c : Cond) (ht : c.Txt) : Sem Tryz.prog 39 [.agg c.row] (.int .i64 c.err) := by
 have h := check_sem c ht 0 0 (by omega) (by omega) (by omega) (by omega)
 unfold Cond.err
 generalize c.chk 0 0 = y at h ⊢
 obtain ⟨m, e⟩ := y
 obtain ⟨k, ks, p, vs, lo, hi⟩ := c
 rw [Cond.row_mk] at h ⊢
 dsimp only at h ⊢
 refine sem_intro (M := fun t => mem t [1000063]) hT hM Tryz.func39 inferInstance rfl rfl rfl rfl rfl rfl ?_
 repeat' (
  (conv => whnf)
  first
   | ((try ((with_reducible first | apply NumE.go | apply IdxE.go | apply TextE.go | apply LookE.go | apply CallE.go); (conv => whnf))); (with_reducible apply SideD.mk); (focus (first | ((try apply givesl); (focus (((apply gives_go (h)); (focus (exact DLes.au)); (focus exact rfl); (all_goals (exact pre))))); (all_goals exact rfl)) | exact side)))
   | ((with_reducible first | apply DrawR.go0 | apply KerB.mk); (focus kernel_rfl))
   | (with_reducible first | apply ends_ret | apply ends_norm | apply Halt'.mk)
   | ((with_reducible apply CondD.mk) <;> intro hb <;> (try simp only [SPLT] at hb) <;> (try first | exact noB)))
 all_goals (try exact (false : Bool))
 repeat' ((conv => whnf); first | exact endR | (with_reducible first | apply And.intro | apply endsO_ret | apply endsO_norm | apply DLes.cons))
 all_goals (conv => whnf)
end Go.Proofs.YtbphihljkbdfpaaGreatDoor
