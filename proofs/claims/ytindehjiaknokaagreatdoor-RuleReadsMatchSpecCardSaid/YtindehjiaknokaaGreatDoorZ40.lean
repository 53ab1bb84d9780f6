/- The program's Read, given that it reads conditions (walk), and both Reads. -/
import Derived.Test.YtindehjiaknokaaGreatDoorZ39
namespace Go.Proofs.YtindehjiaknokaaGreatDoor
set_option linter.unusedSimpArgs false
set_option linter.unusedVariables false
open Go.RowKit
set_option maxRecDepth 100000
set_option maxHeartbeats 4000000
def idl11_6:List (List Bool) := [[b0,b0,b0,b0,b0,b0,b0,b0],[b1,b0,b0,b0,b0,b0,b0,b0],[b0,b1,b0,b0,b0,b0,b0,b0],[b1,b1,b0,b0,b0,b0,b0,b0],[b1,b0,b0,b0,b0,b1,b0,b0],[b0,b1,b1,b0,b0,b0,b0,b0],[b1,b1,b1,b0,b0,b0,b0,b0],[b1,b1,b0,b0,b0,b1,b0,b0],[b0,b1,b1,b1,b0,b0,b0,b0],[b1,b1,b1,b1,b0,b0,b0,b0],[b1,b1,b1,b0,b0,b1,b0,b0],[b0,b1,b1,b1,b1,b0,b0,b0],[b1,b1,b1,b1,b1,b0,b0,b0],[b1,b1,b1,b1,b0,b1,b0,b0],[b1,b1,b1,b1,b1,b1,b0,b0],[b1,b1,b1,b1,b1,b1,b1,b0],[b1,b1,b1,b1,b1,b1,b1,b1]]
theorem readP_sem (s : Str) (H : s.length ≤ 2000 → CondP (s.length + 1) s) (hF : FwdAll s (pcS (s.length + 1) s)) (hmax : s.length ≤ 9223372036854775807) :
    Sem Tryz.prog 11 [.str s] (.tup [.agg (readN s (pcS (s.length + 1) s (0, false))).1.row, .int .i64 (readN s (pcS (s.length + 1) s (0, false))).2.1, .int .i64 (readN s (pcS (s.length + 1) s (0, false))).2.2]) := by
  by_cases hL : 2000 < s.length
  · unfold readN
    rw [if_pos hL]
    unfold zeroC
    dsimp only
    rw [Cond.row_mk]
    refine si [2, 14, 6000021, 1000016, 1000018, 1000019, 1000020, 1000030, 1000031, 1000032, 1000033, 1000034, 1000036, 1000037, 1000038, 1000039, 1000040, 1000041, 1000042, 1000044, 1000068, 1000070, 1000072, 1000073] Tryz.func11 ?_
    repeat' (
      (conv => whnf)
      first
        |((try ((first | apply eN | apply eI | apply eC); (conv => whnf))); (apply sD); (focus ((first | (intro hc; have hc0 := hc; (try simp only [SPLT] at hc); (try refine and0 ?_)) | skip); first | (refine gx (checkCond_sem ?_) <;> exact pre) | exact sideG)))
        |((with_reducible apply CallO.go); (conv => whnf); apply sD; (focus first | (apply giveso_g (condP_t _ _); all_goals exact preO) | (apply giveso_g (condP_0 _ _ _ _ _ _ _ _ _ _); all_goals exact preO) | (apply giveso_g (condP_1 _ _ _ _ _ _ _ _ _ _ _); all_goals exact preO) | (apply giveso_g (condP_2 _ _ _ _ _ _ _ _ _ _ _ _); all_goals exact preO) | (apply giveso_g (condP_3 _ _ _ _ _ _ _ _); all_goals exact preO) | (apply giveso_g (condP_5 _ _ _ _ _ _ _ _ _ _ _ _ _ _); all_goals exact preO) | (apply giveso_g (condP_6 _ _ _ _ _ _ _ _ _ _ _ _ _ _ _); all_goals exact preO) | (apply giveso_g (condP_7 _ _ _ _ _ _ _ _ _ _ _ _); all_goals exact preO) | (apply giveso_g (condP_of _ _ _ _); all_goals exact preO)))
        |((first | apply dG | apply kB); kernel_rfl)
        |(first | apply rR | apply rE | apply rH)
        | ((apply cD) <;> intro hb <;> (try simp only [SPLT] at hb) <;> (try first | exact noB)))
    all_goals try exact false
    repeat' ((conv => whnf); first | exact endR | (with_reducible first | apply And.intro | apply oR | apply oN | apply dC))
    all_goals (conv => whnf)
    (first | refine rle_agg ?_ | refine dle_agg ?_ | skip)
    repeat' (first | exact endF | exact endF2 | with_reducible apply dC | with_reducible apply dle_agg)
  · have hf := hF (0, false) (Nat.zero_le _)
    have c1 := H (by omega) (0, false) (Nat.zero_le _) (fun _ => by dsimp only; omega)
    unfold readN
    rw [if_neg hL]
    generalize pcS (s.length + 1) s (0, false) = r at *
    obtain ⟨c, j, b⟩ := r
    unfold pC at c1
    dsimp only at *
    have hjl : j ≤ s.length := hf.2
    cases b with
    |true =>
      rw [if_pos (.inl rfl)]
      unfold zeroC
      dsimp only
      rw [Cond.row_mk]
      obtain ⟨k0, ks0, p0, vs0, lo0, hi0⟩ := c
      rw [Cond.row_mk] at c1
      refine si [2, 14, 5000006, 6000021, 1000016, 1000018, 1000019, 1000020, 1000030, 1000031, 1000032, 1000033, 1000034, 1000036, 1000037, 1000038, 1000039, 1000040, 1000041, 1000042, 1000044, 1000068, 1000070, 1000072, 1000073] Tryz.func11 ?_
      repeat' (
        (conv => whnf)
        first
          |((with_reducible apply DrawI.at 30 idl11_6); exact rfl; kernel_rfl)
          |with_reducible apply ExE.go
          |((with_reducible apply EqF.mk); exact rfl)
          |with_reducible apply AndI.mk
          |with_reducible exact trivial
          |((try ((first | apply eN | apply eI | apply eC); (conv => whnf))); (apply sD); (focus ((first | (intro hc; have hc0 := hc; (try simp only [SPLT] at hc); (try refine and0 ?_)) | skip); first | (refine gx (checkCond_sem ?_) <;> exact pre) | exact sideG)))
          |((with_reducible apply CallO.go); (conv => whnf); apply sD; (focus first | (apply giveso_g (c1); all_goals exact preO)))
          |((first | apply dG | apply kB); kernel_rfl)
          |(first | apply rR | apply rE | apply rH)
          | ((apply cD) <;> intro hb <;> (try simp only [SPLT] at hb) <;> (try first | exact noB)))
      all_goals try exact false
      repeat' ((conv => whnf); first | exact endR | (with_reducible first | apply And.intro | apply oR | apply oN | apply dC))
      all_goals (conv => whnf)
      (first | refine rle_agg ?_ | refine dle_agg ?_ | skip)
      repeat' (first | exact endF | exact endF2 | with_reducible apply dC | with_reducible apply dle_agg)
    |false =>
      have hCC := checkCond_sem c
      by_cases hj : j < s.length
      · rw [if_pos (.inr hj)]
        clear hCC
        unfold zeroC
        dsimp only
        rw [Cond.row_mk]
        obtain ⟨k0, ks0, p0, vs0, lo0, hi0⟩ := c
        rw [Cond.row_mk] at c1
        refine si [2, 14, 5000006, 6000021, 1000016, 1000018, 1000019, 1000020, 1000030, 1000031, 1000032, 1000033, 1000034, 1000036, 1000037, 1000038, 1000039, 1000040, 1000041, 1000042, 1000044, 1000068, 1000070, 1000072, 1000073] Tryz.func11 ?_
        repeat' (
          (conv => whnf)
          first
            |((with_reducible apply DrawI.at 30 idl11_6); exact rfl; kernel_rfl)
            |with_reducible apply ExE.go
            |((with_reducible apply EqF.mk); exact rfl)
            |with_reducible apply AndI.mk
            |with_reducible exact trivial
            |((try ((first | apply eN | apply eI | apply eC); (conv => whnf))); (apply sD); (focus ((first | (intro hc; have hc0 := hc; (try simp only [SPLT] at hc); (try refine and0 ?_)) | skip); first | (refine gx (checkCond_sem ?_) <;> exact pre) | exact sideG)))
            |((with_reducible apply CallO.go); (conv => whnf); apply sD; (focus first | (apply giveso_g (c1); all_goals exact preO)))
            |((first | apply dG | apply kB); kernel_rfl)
            |(first | apply rR | apply rE | apply rH)
            | ((apply cD) <;> intro hb <;> (try simp only [SPLT] at hb) <;> (try first | exact noB | ((exfalso; simp at hb; omega); done))))
        all_goals try exact false
        repeat' ((conv => whnf); first | exact endR | (with_reducible first | apply And.intro | apply oR | apply oN | apply dC))
        all_goals (conv => whnf)
        (first | refine rle_agg ?_ | refine dle_agg ?_ | skip)
        repeat' (first | exact endF | exact endF2 | with_reducible apply dC | with_reducible apply dle_agg)
      · rw [if_neg (by rintro (h | h); · cases h
                       · exact hj h)]
        generalize c.err = e at *
        obtain ⟨k0, ks0, p0, vs0, lo0, hi0⟩ := c
        rw [Cond.row_mk] at c1 hCC
        by_cases he : e = 0
        · subst he
          rw [if_neg (fun h => h rfl)]
          dsimp only
          rw [Cond.row_mk]
          refine si [2, 14, 5000006, 6000021, 1000016, 1000018, 1000019, 1000020, 1000030, 1000031, 1000032, 1000033, 1000034, 1000036, 1000037, 1000038, 1000039, 1000040, 1000041, 1000042, 1000044, 1000068, 1000070, 1000072, 1000073] Tryz.func11 ?_
          repeat' (
            (conv => whnf)
            first
              |((with_reducible apply DrawI.at 30 idl11_6); exact rfl; kernel_rfl)
              |with_reducible apply ExE.go
              |((with_reducible apply EqF.mk); exact rfl)
              |with_reducible apply AndI.mk
              |with_reducible exact trivial
              |((try ((first | apply eN | apply eI | apply eC); (conv => whnf))); (apply sD); (focus ((first | (intro hc; have hc0 := hc; (try simp only [SPLT] at hc); (try refine and0 ?_)) | skip); first | exact gx hCC | (refine gx (checkCond_sem ?_) <;> exact pre) | exact sideG)))
              |((with_reducible apply CallO.go); (conv => whnf); apply sD; (focus first | (apply giveso_g (c1); all_goals exact preO)))
              |((first | apply dG | apply kB); kernel_rfl)
              |(first | apply rR | apply rE | apply rH)
              | ((apply cD) <;> intro hb <;> (try simp only [SPLT] at hb) <;> (try first | exact noB | ((exfalso; simp at hb; omega); done))))
          all_goals try exact false
          exact finR
        · rw [if_pos he]
          unfold zeroC
          dsimp only
          rw [Cond.row_mk]
          refine si [2, 14, 5000006, 6000021, 1000016, 1000018, 1000019, 1000020, 1000030, 1000031, 1000032, 1000033, 1000034, 1000036, 1000037, 1000038, 1000039, 1000040, 1000041, 1000042, 1000044, 1000068, 1000070, 1000072, 1000073] Tryz.func11 ?_
          repeat' (
            (conv => whnf)
            first
              |((with_reducible apply DrawI.at 30 idl11_6); exact rfl; kernel_rfl)
              |with_reducible apply ExE.go
              |((with_reducible apply EqF.mk); exact rfl)
              |with_reducible apply AndI.mk
              |with_reducible exact trivial
              |((try ((first | apply eN | apply eI | apply eC); (conv => whnf))); (apply sD); (focus ((first | (intro hc; have hc0 := hc; (try simp only [SPLT] at hc); (try refine and0 ?_)) | skip); first | exact gx hCC | (refine gx (checkCond_sem ?_) <;> exact pre) | exact sideG)))
              |((with_reducible apply CallO.go); (conv => whnf); apply sD; (focus first | (apply giveso_g (c1); all_goals exact preO)))
              |((first | apply dG | apply kB); kernel_rfl)
              |(first | apply rR | apply rE | apply rH)
              | ((apply cD) <;> intro hb <;> (try simp only [SPLT] at hb) <;> (try first | exact noB | ((exfalso; simp at hb; omega); done))))
          all_goals try exact false
          repeat' ((conv => whnf); first | exact endR | (with_reducible first | apply And.intro | apply oR | apply oN | apply dC))
          all_goals (conv => whnf)
          (first | refine rle_agg ?_ | refine dle_agg ?_ | skip)
          repeat' (first | exact endF | exact endF2 | with_reducible apply dC | with_reducible apply dle_agg)
theorem sim_read {s:Str} {a b:Cond × Pl} (h:Sim a b):readN s a=readN s b:=by
 obtain ⟨e1,e2⟩:=h
 unfold readN
 rw [e1]
 split
 ·rfl
 ·split
  ·rfl
  ·rename_i hn
   have hb:b.2.2=false:=by
    cases hb:b.2.2 with
    |false=>rfl
    |true=>exact absurd (.inl hb) hn
   rw [e2 (by rw [e1];exact hb)]
theorem read4P_sem (s:Str) (hmax:s.length≤9223372036854775807):
  Sem Tryz.prog 13 [.str s] (.tup [.agg (readN s (pcS (s.length+1) s (0,false))).1.row,.int .i64 (readN s (pcS (s.length+1) s (0,false))).2.1,.int .i64 (readN s (pcS (s.length+1) s (0,false))).2.2]):=by
 rw [← sim_read (sim_rc s (s.length+1) (0,false) (Nat.zero_le _))]
 by_cases hL:2000 < s.length
 ·unfold readN
  rw [if_pos hL]
  unfold zeroC
  dsimp only
  rw [Cond.row_mk]
  refine si [2,14,1000016,1000018,1000019,1000020,1000030,1000031,1000032,1000033,1000034,1000036,1000037,1000038,1000039,1000040,1000041,1000042,1000044,1000068,1000070,1000072,1000073] Tryz.func13 ?_
  repeat'((conv=>whnf);first|(try(first|apply eN|apply eI|apply eC);conv=>whnf);apply sD;(focus first|(refine gx (checkCond4_sem ?_ ?_)<;>exact pre)|exact side)|((with_reducible apply CallO.go);(conv=>whnf);apply sD;(focus first|(apply giveso_g (cond4_3 _ _ _ _ _ _ _ _);all_goals exact preO)|(apply giveso_g (cond4_4 _ _ _ _ _ _ _ _ _);all_goals exact preO)|(apply giveso_g (cond4_5 _ _ _ _ _ _ _ _ _ _ _ _ _);all_goals exact preO)|(apply giveso_g (cond4_6 _ _ _ _ _ _ _ _ _ _ _ _ _ _);all_goals exact preO)|(apply giveso_g (cond4_7 _ _ _ _ _ _ _ _ _ _ _);all_goals exact preO)|(apply giveso_g (cond4_t _ _);all_goals exact preO)|(apply giveso_g (cond4_0 _ _ _ _ _ _ _ _);all_goals exact preO)|(apply giveso_g (cond4_1 _ _ _ _ _ _ _ _ _);all_goals exact preO)|(apply giveso_g (cond4_2 _ _ _ _ _ _ _ _ _ _);all_goals exact preO)|(apply giveso_g (cond4_of _ _ _ _);all_goals exact preO)|(apply giveso_g (stop_f _ _);all_goals exact preO)|(apply giveso_g (stop_t _ _ _);all_goals exact preO)))|(first|apply dG|apply kB);kernel_rfl|apply rR|apply rE|apply rH| (apply cD<;>intro hb<;>(try simp only[SPLT]at hb)<;>try exact noB))
  all_goals try exact false
  repeat' ((conv=>whnf);first|exact endR|with_reducible first|apply And.intro|apply oR|apply oN|apply dC)
  all_goals (conv=>whnf)
  (first|refine rle_agg ?_|refine dle_agg ?_|skip)
  repeat' (first|exact endF|exact endF2|with_reducible apply dC|with_reducible apply dle_agg)
 ·exact read4_sem s (fun _=>rc_txt (by omega) _ _) hmax
end Go.Proofs.YtindehjiaknokaaGreatDoor
