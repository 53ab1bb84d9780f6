/- The reference's reader: numbers (walk). -/
import Derived.Test.YtindehjiaknokaaGreatDoorZ25
namespace Go.Proofs.YtindehjiaknokaaGreatDoor
set_option linter.unusedSimpArgs false
set_option linter.unusedVariables false
open Go.RowKit
set_option maxRecDepth 100000
set_option maxHeartbeats 4000000
def idl72_5:List (List Bool) := [[b0,b0,b0,b0,b0,b0,b0,b0,b0,b0,b0,b0,b0,b0,b0,b0,b0,b0],[b1,b0,b0,b0,b0,b0,b0,b0,b0,b0,b0,b0,b0,b0,b0,b0,b0,b0],[b1,b1,b0,b0,b0,b0,b0,b0,b0,b0,b0,b0,b0,b0,b0,b0,b0,b0],[b1,b1,b1,b0,b0,b0,b0,b0,b0,b0,b0,b0,b0,b0,b0,b0,b0,b0],[b1,b1,b1,b1,b0,b0,b0,b0,b0,b0,b0,b0,b0,b0,b0,b0,b0,b0],[b1,b1,b1,b1,b1,b0,b0,b0,b0,b0,b0,b0,b0,b0,b0,b0,b0,b0],[b1,b1,b1,b1,b1,b1,b0,b0,b0,b0,b0,b0,b0,b0,b0,b0,b0,b0],[b1,b1,b1,b1,b1,b1,b1,b0,b0,b0,b0,b0,b0,b0,b0,b0,b0,b0],[b1,b1,b1,b1,b1,b1,b0,b0,b0,b0,b1,b0,b0,b0,b0,b0,b0,b0],[b1,b1,b1,b1,b1,b1,b1,b1,b0,b0,b0,b0,b0,b0,b0,b0,b0,b0],[b1,b1,b1,b1,b1,b1,b1,b0,b0,b0,b1,b0,b0,b0,b0,b0,b0,b0],[b1,b1,b1,b1,b1,b1,b0,b0,b0,b0,b1,b1,b0,b0,b0,b0,b0,b0],[b1,b1,b1,b1,b1,b1,b1,b1,b1,b0,b0,b0,b0,b0,b0,b0,b0,b0],[b1,b1,b1,b1,b1,b1,b1,b1,b0,b0,b1,b0,b0,b0,b0,b0,b0,b0],[b1,b1,b1,b1,b1,b1,b1,b0,b0,b0,b1,b1,b0,b0,b0,b0,b0,b0],[b1,b1,b1,b1,b1,b1,b0,b0,b0,b0,b1,b1,b1,b0,b0,b0,b0,b0],[b1,b1,b1,b1,b1,b1,b1,b1,b1,b1,b0,b0,b0,b0,b0,b0,b0,b0],[b1,b1,b1,b1,b1,b1,b1,b1,b1,b0,b1,b0,b0,b0,b0,b0,b0,b0],[b1,b1,b1,b1,b1,b1,b1,b1,b0,b0,b1,b1,b0,b0,b0,b0,b0,b0],[b1,b1,b1,b1,b1,b1,b1,b0,b0,b0,b1,b1,b1,b0,b0,b0,b0,b0],[b1,b1,b1,b1,b1,b1,b0,b0,b0,b0,b1,b1,b1,b1,b0,b0,b0,b0],[b1,b1,b1,b1,b1,b1,b1,b1,b1,b1,b1,b0,b0,b0,b0,b0,b0,b0],[b1,b1,b1,b1,b1,b1,b1,b1,b1,b0,b1,b1,b0,b0,b0,b0,b0,b0],[b1,b1,b1,b1,b1,b1,b1,b1,b0,b0,b1,b1,b1,b0,b0,b0,b0,b0],[b1,b1,b1,b1,b1,b1,b1,b0,b0,b0,b1,b1,b1,b1,b0,b0,b0,b0],[b1,b1,b1,b1,b1,b1,b1,b1,b1,b1,b1,b1,b0,b0,b0,b0,b0,b0],[b1,b1,b1,b1,b1,b1,b1,b1,b1,b0,b1,b1,b1,b0,b0,b0,b0,b0],[b1,b1,b1,b1,b1,b1,b1,b1,b0,b0,b1,b1,b1,b1,b0,b0,b0,b0],[b1,b1,b1,b1,b1,b1,b1,b1,b1,b1,b1,b1,b1,b0,b0,b0,b0,b0],[b1,b1,b1,b1,b1,b1,b1,b1,b1,b0,b1,b1,b1,b1,b0,b0,b0,b0],[b1,b1,b1,b1,b1,b1,b1,b1,b1,b1,b1,b1,b1,b1,b0,b0,b0,b0],[b1,b1,b1,b1,b1,b1,b1,b1,b1,b1,b1,b1,b1,b1,b1,b0,b0,b0],[b1,b1,b1,b1,b1,b1,b1,b1,b1,b1,b1,b1,b1,b1,b1,b1,b0,b0],[b1,b1,b1,b1,b1,b1,b1,b1,b1,b1,b1,b1,b1,b1,b1,b1,b1,b0],[b1,b1,b1,b1,b1,b1,b1,b1,b1,b1,b1,b1,b1,b1,b1,b1,b1,b1]]
theorem passes_gen (s t:Str) (i f:Nat) (y:Bool) (h:startsAt s t i=y) (hf:(if startsAt s t i=true then i+t.length else i)=f) (hi:i≤s.length) (hs:s.length≤100000000) (ht:t.length≤100):
  SemO Tryz.prog 38 (.obj [.str s,.int .i64 i,.int .i64 (-1)]) [.str t] (.bool y) (some (.obj [.str s,.int .i64 f,.int .i64 (-1)])):=by
 have h1:=passes_sem s t (i,false) hi hs ht
 unfold isS at h1
 dsimp only at h1
 rw [h] at h1 hf
 cases y with
 |true=>
  rw [if_pos rfl] at hf
  subst hf
  exact h1
 |false=>
  rw [if_neg (by decide)] at hf
  subst hf
  exact h1
theorem num4_t (s:Str) (i:Nat) (hs:s.length≤100000000):SemO Tryz.prog 72 (.obj [.str s,.int .i64 i,.int .i64 i]) [] (.int .i64 0) (some (.obj [.str s,.int .i64 i,.int .i64 i])):=by
 refine sO [0,5000005,1000016,1000020,1000030,1000033,1000034,1000038,1000040,1000041,1000068,1000072] Tryz.func72 ?_
 repeat'((conv=>whnf);first|((with_reducible apply DrawI.at 20 idl72_5);exact rfl;kernel_rfl)|with_reducible apply ExE.go|((with_reducible apply EqF.mk);exact rfl)|with_reducible apply AndI.mk|with_reducible exact trivial|(try(first|apply eN|apply eI|apply eC);conv=>whnf);apply sD;(focus(try intro hc;have hc0:=hc;(try simp only[SPLT]at hc);try refine and0 ?_);first|(refine gx (isDigit_sem ?_ ?_ ?_ ?_)<;>exact pre)|(refine gx (atoi_sem ?_ ?_ ?_ ?_)<;>exact pre)|exact sideG)|((with_reducible apply CallO.go);(conv=>whnf);apply sD;(focus first|(apply giveso_g (passes_gen _ _ _ _ _ _ _ _ _ _);all_goals exact preO)|(apply giveso_g (passes_sem _ _ _ _ _ _);all_goals exact preO)|(apply giveso_g (stop_f _ _);all_goals exact preO)|(apply giveso_g (stop_t _ _ _);all_goals exact preO)))|(first|apply dG|apply kB);kernel_rfl|apply rR|apply rE|apply rH| (apply cD<;>intro hb<;>(try simp only[SPLT]at hb)<;>try exact noB))
 all_goals try exact false
 exact finR
theorem num4_f (s : Str) (i f : Nat) (neg : Bool) (hneg : startsAt s [45] i = neg) (hf : numF s i = f) (hi : i ≤ s.length) (hs : s.length ≤ 100000000) :
    SemO Tryz.prog 72 (.obj [.str s, .int .i64 i, .int .i64 (-1)]) [] (.int .i64 (numI s i).1) (some (.obj [.str s, .int .i64 (numI s i).2.1, .int .i64 (bI (numI s i).2)])) := by
  have his := passes_gen s [45] i f neg hneg hf hi hs (by decide)
  have hat := num_atoi (s := s) (i := i)
  have hif := numF_ge s i
  unfold numI
  rw [hneg]
  rw [hf] at hat hif ⊢
  have hd0 := isDigit_sem s f (-1) hs
  have hst := stop_f s f
  cases h1 : digAt s f with
  |false =>
    rw [h1] at hd0
    rw [if_pos (.inl rfl)]
    simp only [bI_t]
    refine sO [0, 5000005, 1000016, 1000020, 1000030, 1000033, 1000034, 1000038, 1000040, 1000041, 1000068, 1000072] Tryz.func72 ?_
    repeat' (
      (conv => whnf)
      first
        |((with_reducible apply DrawI.at 20 idl72_5); exact rfl; kernel_rfl)
        |with_reducible apply ExE.go
        |((with_reducible apply EqF.mk); exact rfl)
        |with_reducible apply AndI.mk
        |with_reducible exact trivial
        |((try ((first | apply eN | apply eI | apply eC); (conv => whnf))); (apply sD); (focus ((first | (intro hc; have hc0 := hc; (try simp only [SPLT] at hc); (try refine and0 ?_)) | skip); first | exact gx hd0 | (refine gx (isDigit_sem ?_ ?_ ?_ ?_) <;> exact pre) | (refine gx (atoi_sem ?_ ?_ ?_ ?_) <;> exact pre) | exact sideG)))
        |((with_reducible apply CallO.go); (conv => whnf); apply sD; (focus first | (apply giveso_g (his); all_goals exact preO) | (apply giveso_g (hst); all_goals exact preO)))
        |((first | apply dG | apply kB); kernel_rfl)
        |(first | apply rR | apply rE | apply rH)
        | ((apply cD) <;> intro hb <;> (try simp only [SPLT] at hb) <;> (try first | exact noB)))
    all_goals try exact false
    exact finR
  |true =>
    obtain ⟨hA1, hA2, hA3, hA4, hA5⟩ := hat h1
    obtain ⟨c, hc, hcd⟩ := digAt_some h1
    have hflt := digAt_lt h1
    have hgd := getD_some hc
    rw [h1] at hd0
    have hst1 := stop_f s (f + 1)
    simp only [Int.natCast_add, Int.natCast_one] at hst1
    by_cases h48 : c = 48
    · subst h48
      have hE : numE s f = f + 1 := by unfold numE; rw [if_pos hc]
      rw [hE] at hA1 hA2 hA4 hA5 ⊢
      have hd1 := isDigit_sem s (f + 1) (-1) hs
      have hA : Sem Tryz.prog 89 [.str ((s.take ((f + 1 : Nat) : Int).toNat).drop ((i : Int)).toNat)] (.tup [.int .i64 (numV (part s i (f + 1))), .pv .nilIface]) := by
        rw [part_cut]
        exact atoi_sem _ _ (by omega) hA1
      cases neg with
      |true =>
        rw [if_pos (.inr ⟨rfl, hc⟩)]
        simp only [bI_t]
        refine sO [0, 5000005, 1000016, 1000020, 1000030, 1000033, 1000034, 1000038, 1000040, 1000041, 1000068, 1000072] Tryz.func72 ?_
        repeat' (
          (conv => whnf)
          first
            |((with_reducible apply DrawI.at 20 idl72_5); exact rfl; kernel_rfl)
            |with_reducible apply ExE.go
            |((with_reducible apply EqF.mk); exact rfl)
            |with_reducible apply AndI.mk
            |with_reducible exact trivial
            |((try ((first | apply eN | apply eI | apply eC); (conv => whnf))); (apply sD); (focus ((first | (intro hc; have hc0 := hc; (try simp only [SPLT] at hc); (try refine and0 ?_)) | skip); first | exact gx hd0 | (refine gx (isDigit_sem ?_ ?_ ?_ ?_) <;> exact pre) | (refine gx (atoi_sem ?_ ?_ ?_ ?_) <;> exact pre) | exact sideG)))
            |((with_reducible apply CallO.go); (conv => whnf); apply sD; (focus first | (apply giveso_g (his); all_goals exact preO) | (apply giveso_g (hst); all_goals exact preO)))
            |((first | apply dG | apply kB); kernel_rfl)
            |(first | apply rR | apply rE | apply rH)
            | ((apply cD) <;> intro hb <;> (try simp only [SPLT] at hb) <;> (try first | exact noB | ((exfalso; rw [hgd] at hb; simp at hb; done); done) | ((exfalso; rw [hgd] at hb; exact hb rfl); done))))
        all_goals try exact false
        exact finR
      |false =>
        rw [if_neg (by simp)]
        cases h2 : digAt s (f + 1) with
        |true =>
          rw [if_pos rfl]
          rw [h2] at hd1
          dsimp only
          simp only [bI_t, Int.natCast_add, Int.natCast_one] at *
          refine sO [0, 5000005, 1000016, 1000020, 1000030, 1000033, 1000034, 1000038, 1000040, 1000041, 1000068, 1000072] Tryz.func72 ?_
          repeat' (
            (conv => whnf)
            first
              |((with_reducible apply DrawI.at 20 idl72_5); exact rfl; kernel_rfl)
              |with_reducible apply ExE.go
              |((with_reducible apply EqF.mk); exact rfl)
              |with_reducible apply AndI.mk
              |with_reducible exact trivial
              |((try ((first | apply eN | apply eI | apply eC); (conv => whnf))); (apply sD); (focus ((first | (intro hc; have hc0 := hc; (try simp only [SPLT] at hc); (try refine and0 ?_)) | skip); first | exact gx hd0 | (refine gx (isDigit_sem ?_ ?_ ?_ ?_) <;> exact pre) | (refine gx (atoi_sem ?_ ?_ ?_ ?_) <;> exact pre) | exact sideG)))
              |((with_reducible apply CallO.go); (conv => whnf); apply sD; (focus first | (apply giveso_g (his); all_goals exact preO) | (apply giveso_g (hst); all_goals exact preO)))
              |((first | apply dG | apply kB); kernel_rfl)
              |(first | apply rR | apply rE | apply rH)
              | ((apply cD) <;> intro hb <;> (try simp only [SPLT] at hb) <;> (try first | exact noB)))
          all_goals try exact false
          refine loop_go (M := fun t => mem t [0, 1000016, 1000020, 1000030, 1000033, 1000034, 1000038, 1000040, 1000041, 1000068, 1000072]) hT hM (fun k : Nat => [(0, .obj [.str s, .int .i64 (f + 1), .int .i64 (-1)]), (6, .int .i64 1)]) (fun k => k = 0) (fun k => 0) (0) ?_ ?_ ?_
          · exact finF
          · rfl
          · rintro k rfl
            repeat' (
              (conv => whnf)
              first
                |((with_reducible apply DrawI.at 20 idl72_5); exact rfl; kernel_rfl)
                |with_reducible apply ExE.go
                |((with_reducible apply EqF.mk); exact rfl)
                |with_reducible apply AndI.mk
                |with_reducible exact trivial
                |((try ((first | apply eN | apply eI | apply eC); (conv => whnf))); (apply sD); (focus ((first | (intro hc; have hc0 := hc; (try simp only [SPLT] at hc); (try refine and0 ?_)) | skip); first | exact gx hd1 | (refine gx (isDigit_sem ?_ ?_ ?_ ?_) <;> exact pre) | (refine gx (atoi_sem ?_ ?_ ?_ ?_) <;> exact pre) | exact sideG)))
                |((with_reducible apply CallO.go); (conv => whnf); apply sD; (focus first | (apply giveso_g (hst1); all_goals exact preO)))
                |((first | apply dG | apply kB); kernel_rfl)
                |(first | apply rR | apply rE | apply rH)
                | ((apply cD) <;> intro hb <;> (try simp only [SPLT] at hb) <;> (try first | exact noB | ((exfalso; rw [hgd] at hb; simp at hb; done); done) | ((exfalso; rw [hgd] at hb; exact hb rfl); done))))
            all_goals try exact false
            exact finR
        |false =>
          rw [if_neg (by decide)]
          rw [h2] at hd1
          dsimp only
          simp only [bI_f, Int.natCast_add, Int.natCast_one] at *
          refine sO [0, 5000005, 1000016, 1000020, 1000030, 1000033, 1000034, 1000038, 1000040, 1000041, 1000068, 1000072] Tryz.func72 ?_
          repeat' (
            (conv => whnf)
            first
              |((with_reducible apply DrawI.at 20 idl72_5); exact rfl; kernel_rfl)
              |with_reducible apply ExE.go
              |((with_reducible apply EqF.mk); exact rfl)
              |with_reducible apply AndI.mk
              |with_reducible exact trivial
              |((try ((first | apply eN | apply eI | apply eC); (conv => whnf))); (apply sD); (focus ((first | (intro hc; have hc0 := hc; (try simp only [SPLT] at hc); (try refine and0 ?_)) | skip); first | exact gx hd0 | (refine gx (isDigit_sem ?_ ?_ ?_ ?_) <;> exact pre) | (refine gx (atoi_sem ?_ ?_ ?_ ?_) <;> exact pre) | exact sideG)))
              |((with_reducible apply CallO.go); (conv => whnf); apply sD; (focus first | (apply giveso_g (his); all_goals exact preO) | (apply giveso_g (hst); all_goals exact preO)))
              |((first | apply dG | apply kB); kernel_rfl)
              |(first | apply rR | apply rE | apply rH)
              | ((apply cD) <;> intro hb <;> (try simp only [SPLT] at hb) <;> (try first | exact noB)))
          all_goals try exact false
          refine loop_go (M := fun t => mem t [0, 1000016, 1000020, 1000030, 1000033, 1000034, 1000038, 1000040, 1000041, 1000068, 1000072]) hT hM (fun k : Nat => [(0, .obj [.str s, .int .i64 (f + 1), .int .i64 (-1)]), (6, .int .i64 1)]) (fun k => k = 0) (fun k => 0) (0) ?_ ?_ ?_
          · exact finF
          · rfl
          · rintro k rfl
            repeat' (
              (conv => whnf)
              first
                |((with_reducible apply DrawI.at 20 idl72_5); exact rfl; kernel_rfl)
                |with_reducible apply ExE.go
                |((with_reducible apply EqF.mk); exact rfl)
                |with_reducible apply AndI.mk
                |with_reducible exact trivial
                |((try ((first | apply eN | apply eI | apply eC); (conv => whnf))); (apply sD); (focus ((first | (intro hc; have hc0 := hc; (try simp only [SPLT] at hc); (try refine and0 ?_)) | skip); first | exact gx hd1 | exact gx hA | (refine gx (isDigit_sem ?_ ?_ ?_ ?_) <;> exact pre) | (refine gx (atoi_sem ?_ ?_ ?_ ?_) <;> exact pre) | exact sideG)))
                |((with_reducible apply CallO.go); (conv => whnf); apply sD; (focus first | (apply giveso_g (passes_gen _ _ _ _ _ _ _ _ _ _); all_goals exact preO) | (apply giveso_g (passes_sem _ _ _ _ _ _); all_goals exact preO) | (apply giveso_g (stop_f _ _); all_goals exact preO) | (apply giveso_g (stop_t _ _ _); all_goals exact preO)))
                |((first | apply dG | apply kB); kernel_rfl)
                |(first | apply rR | apply rE | apply rH)
                | ((apply cD) <;> intro hb <;> (try simp only [SPLT] at hb) <;> (try first | exact noB)))
            all_goals try exact false
            exact finR
    · have hE : numE s f = digsEnd s 13 f := by unfold numE; rw [if_neg (by rw [hc]; exact fun h => h48 (Option.some.inj h))]
      rw [hE] at hA1 hA2 hA4 hA5 ⊢
      rw [if_neg (by rw [hc]; rintro (h | ⟨_, h⟩); · cases h
                     · exact h48 (Option.some.inj h))]
      have n48 : (c.toNat : Int) ≠ 48 := fun e => h48 (UInt8.toNat_inj.1 (by show c.toNat = 48; omega))
      have hG1 : digsEnd s 12 (f + 1) = digsEnd s 13 f := by conv => rhs; unfold digsEnd
                                                             rw [if_pos h1]
      generalize digsEnd s 13 f = e at hA1 hA2 hA4 hA5 hG1 ⊢
      have hz : (s.getD ((f : Int).toNat) 0).toNat ≠ 48 := by rw [hgd]; omega
      refine sO [0, 5000005, 1000016, 1000020, 1000030, 1000033, 1000034, 1000038, 1000040, 1000041, 1000068, 1000072] Tryz.func72 ?_
      repeat' (
        (conv => whnf)
        first
          |((with_reducible apply DrawI.at 20 idl72_5); exact rfl; kernel_rfl)
          |with_reducible apply ExE.go
          |((with_reducible apply EqF.mk); exact rfl)
          |with_reducible apply AndI.mk
          |with_reducible exact trivial
          |((try ((first | apply eN | apply eI | apply eC); (conv => whnf))); (apply sD); (focus ((first | (intro hc; have hc0 := hc; (try simp only [SPLT] at hc); (try refine and0 ?_)) | skip); first | exact gx hd0 | (refine gx (isDigit_sem ?_ ?_ ?_ ?_) <;> exact pre) | (refine gx (atoi_sem ?_ ?_ ?_ ?_) <;> exact pre) | exact sideG)))
          |((with_reducible apply CallO.go); (conv => whnf); apply sD; (focus first | (apply giveso_g (his); all_goals exact preO) | (apply giveso_g (hst); all_goals exact preO)))
          |((first | apply dG | apply kB); kernel_rfl)
          |(first | apply rR | apply rE | apply rH)
          | ((apply cD) <;> intro hb <;> (try simp only [SPLT] at hb) <;> (try first | exact noB | ((exfalso; rw [hgd] at hb; simp at hb; omega); done) | ((exfalso; rw [hgd] at hb; omega); done))))
      all_goals try exact false
      refine loop_go (M := fun t => mem t [0, 1000016, 1000020, 1000030, 1000033, 1000034, 1000038, 1000040, 1000041, 1000068, 1000072]) hT hM (fun j : Nat => [(0, .obj [.str s, .int .i64 j, .int .i64 (-1)]), (6, .int .i64 ((j : Int) - f))]) (fun j => (f + 1 ≤ j ∧ j ≤ f + 13 ∧ j ≤ s.length) ∧ digsEnd s (13 - (j - f)) j = e) (fun j => f + 13 - j) (f + 1) ?_ ?_ ?_
      · (conv => whnf)
        refine ⟨?_, by rfl⟩
        repeat' ((conv => whnf); first | exact endF | (exact DLe.of_eq (by congr 1; omega)) | exact endF2 | with_reducible apply dC)
      · exact ⟨⟨by omega, by omega, by omega⟩, by rw [show 13 - (f + 1 - f) = 12 by omega]; exact hG1⟩
      · rintro j ⟨⟨hfj, hj13, hjl⟩, he⟩
        have hdj := isDigit_sem s j (-1) hs
        have hstj := stop_f s j
        cases hdg : digAt s j with
        |true =>
          rw [hdg] at hdj
          have hjlt := digAt_lt hdg
          by_cases hlast : j = f + 13
          · rw [show 13 - (j - f) = 0 by omega] at he
            have he : j = e := he
            subst he
            rw [if_pos hdg]
            simp only [bI_t]
            repeat' (
              (conv => whnf)
              first
                |((with_reducible apply DrawI.at 20 idl72_5); exact rfl; kernel_rfl)
                |with_reducible apply ExE.go
                |((with_reducible apply EqF.mk); exact rfl)
                |with_reducible apply AndI.mk
                |with_reducible exact trivial
                |((try ((first | apply eN | apply eI | apply eC); (conv => whnf))); (apply sD); (focus ((first | (intro hc; have hc0 := hc; (try simp only [SPLT] at hc); (try refine and0 ?_)) | skip); first | exact gx hdj | (refine gx (isDigit_sem ?_ ?_ ?_ ?_) <;> exact pre) | (refine gx (atoi_sem ?_ ?_ ?_ ?_) <;> exact pre) | exact sideG)))
                |((with_reducible apply CallO.go); (conv => whnf); apply sD; (focus first | (apply giveso_g (hstj); all_goals exact preO)))
                |((first | apply dG | apply kB); kernel_rfl)
                |(first | apply rR | apply rE | apply rH)
                | ((apply cD) <;> intro hb <;> (try simp only [SPLT] at hb) <;> (try first | exact noB | ((exfalso; simp at hb; omega); done))))
            all_goals try exact false
            exact finR
          · have he2 : digsEnd s (13 - (j + 1 - f)) (j + 1) = e := by
              rw [show 13 - (j - f) = (13 - (j + 1 - f)) + 1 by omega] at he
              unfold digsEnd at he
              rwa [if_pos hdg] at he
            repeat' (
              (conv => whnf)
              first
                |((with_reducible apply DrawI.at 20 idl72_5); exact rfl; kernel_rfl)
                |with_reducible apply ExE.go
                |((with_reducible apply EqF.mk); exact rfl)
                |with_reducible apply AndI.mk
                |with_reducible exact trivial
                |((try ((first | apply eN | apply eI | apply eC); (conv => whnf))); (apply sD); (focus ((first | (intro hc; have hc0 := hc; (try simp only [SPLT] at hc); (try refine and0 ?_)) | skip); first | exact gx hdj | (refine gx (isDigit_sem ?_ ?_ ?_ ?_) <;> exact pre) | (refine gx (atoi_sem ?_ ?_ ?_ ?_) <;> exact pre) | exact sideG)))
                |((with_reducible apply CallO.go); (conv => whnf); apply sD; (focus first | (apply giveso_g (hstj); all_goals exact preO)))
                |((first | apply dG | apply kB); kernel_rfl)
                |(first | apply rR | apply rE | apply rH)
                | ((apply cD) <;> intro hb <;> (try simp only [SPLT] at hb) <;> (try first | exact noB | ((exfalso; simp at hb; omega); done) | ((exfalso; rw [hgd] at hb; omega); done))))
            all_goals try exact false
            refine ⟨j + 1, ⟨⟨by omega, by omega, by omega⟩, he2⟩, by omega, ?_⟩
            (conv => whnf)
            refine ⟨?_, by rfl⟩
            repeat' ((conv => whnf); first | exact endF | (exact DLe.of_eq (by congr 1; omega)) | exact endF2 | with_reducible apply dC)
        |false =>
          rw [hdg] at hdj
          have he3 : j = e := by
            cases hn : 13 - (j - f) with
            |zero => rw [hn] at he; exact he
            |succ n =>
              rw [hn] at he
              unfold digsEnd at he
              rwa [if_neg (by rw [hdg]; decide)] at he
          subst he3
          rw [if_neg (by rw [hdg]; decide)]
          simp only [bI_f]
          have hA : Sem Tryz.prog 89 [.str ((s.take ((j : Int)).toNat).drop ((i : Int)).toNat)] (.tup [.int .i64 (numV (part s i j)), .pv .nilIface]) := by
            rw [part_cut]
            exact atoi_sem _ _ (by omega) hA1
          repeat' (
            (conv => whnf)
            first
              |((with_reducible apply DrawI.at 20 idl72_5); exact rfl; kernel_rfl)
              |with_reducible apply ExE.go
              |((with_reducible apply EqF.mk); exact rfl)
              |with_reducible apply AndI.mk
              |with_reducible exact trivial
              |((try ((first | apply eN | apply eI | apply eC); (conv => whnf))); (apply sD); (focus ((first | (intro hc; have hc0 := hc; (try simp only [SPLT] at hc); (try refine and0 ?_)) | skip); first | exact gx hdj | exact gx hA | (refine gx (isDigit_sem ?_ ?_ ?_ ?_) <;> exact pre) | (refine gx (atoi_sem ?_ ?_ ?_ ?_) <;> exact pre) | exact sideG)))
              |((with_reducible apply CallO.go); (conv => whnf); apply sD; (focus first | (apply giveso_g (passes_gen _ _ _ _ _ _ _ _ _ _); all_goals exact preO) | (apply giveso_g (passes_sem _ _ _ _ _ _); all_goals exact preO) | (apply giveso_g (stop_f _ _); all_goals exact preO) | (apply giveso_g (stop_t _ _ _); all_goals exact preO)))
              |((first | apply dG | apply kB); kernel_rfl)
              |(first | apply rR | apply rE | apply rH)
              | ((apply cD) <;> intro hb <;> (try simp only [SPLT] at hb) <;> (try first | exact noB | ((exfalso; simp at hb; done); done))))
          all_goals try exact false
          exact finR
theorem number4_sem (s:Str) (q:Pl) (hq:q.1≤s.length) (hs:s.length≤100000000):
  SemO Tryz.prog 72 (.obj (rD s q)) [] (.int .i64 (numS s q).1) (some (.obj (rD s (numS s q).2))):=by
 obtain ⟨i,b⟩:=q
 cases b with
 |true=>exact num4_t s i hs
 |false=>exact num4_f s i _ _ rfl rfl hq hs
end Go.Proofs.YtindehjiaknokaaGreatDoor
