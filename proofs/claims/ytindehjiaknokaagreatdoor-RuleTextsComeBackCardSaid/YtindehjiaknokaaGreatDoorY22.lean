/- The reader of conditions: numbers (walk of the program's). -/
import Derived.Test.YtindehjiaknokaaGreatDoorY19
namespace Go.Proofs.YtindehjiaknokaaGreatDoor
set_option linter.unusedSimpArgs false
set_option linter.unusedVariables false
open Go.RowKit
set_option maxRecDepth 100000
set_option maxHeartbeats 4000000
def idl68_8:List (List Bool) := [[b0,b0,b0,b0,b0,b0,b0,b0,b0,b0,b0,b0,b0,b0,b0,b0,b0,b0,b0],[b1,b0,b0,b0,b0,b0,b0,b0,b0,b0,b0,b0,b0,b0,b0,b0,b0,b0,b0],[b1,b1,b0,b0,b0,b0,b0,b0,b0,b0,b0,b0,b0,b0,b0,b0,b0,b0,b0],[b1,b1,b1,b0,b0,b0,b0,b0,b0,b0,b0,b0,b0,b0,b0,b0,b0,b0,b0],[b1,b1,b1,b1,b0,b0,b0,b0,b0,b0,b0,b0,b0,b0,b0,b0,b0,b0,b0],[b1,b1,b1,b1,b1,b0,b0,b0,b0,b0,b0,b0,b0,b0,b0,b0,b0,b0,b0],[b1,b1,b1,b1,b1,b1,b0,b0,b0,b0,b0,b0,b0,b0,b0,b0,b0,b0,b0],[b1,b1,b1,b1,b1,b1,b1,b0,b0,b0,b0,b0,b0,b0,b0,b0,b0,b0,b0],[b1,b1,b1,b1,b1,b1,b0,b0,b0,b0,b1,b0,b0,b0,b0,b0,b0,b0,b0],[b1,b1,b1,b1,b1,b1,b1,b1,b0,b0,b0,b0,b0,b0,b0,b0,b0,b0,b0],[b1,b1,b1,b1,b1,b1,b1,b0,b0,b0,b1,b0,b0,b0,b0,b0,b0,b0,b0],[b1,b1,b1,b1,b1,b1,b0,b0,b0,b0,b1,b1,b0,b0,b0,b0,b0,b0,b0],[b1,b1,b1,b1,b1,b1,b1,b1,b1,b0,b0,b0,b0,b0,b0,b0,b0,b0,b0],[b1,b1,b1,b1,b1,b1,b1,b1,b0,b0,b1,b0,b0,b0,b0,b0,b0,b0,b0],[b1,b1,b1,b1,b1,b1,b1,b0,b0,b0,b1,b1,b0,b0,b0,b0,b0,b0,b0],[b1,b1,b1,b1,b1,b1,b0,b0,b0,b0,b1,b1,b1,b0,b0,b0,b0,b0,b0],[b1,b1,b1,b1,b1,b1,b1,b1,b1,b1,b0,b0,b0,b0,b0,b0,b0,b0,b0],[b1,b1,b1,b1,b1,b1,b1,b1,b1,b0,b1,b0,b0,b0,b0,b0,b0,b0,b0],[b1,b1,b1,b1,b1,b1,b1,b1,b0,b0,b1,b1,b0,b0,b0,b0,b0,b0,b0],[b1,b1,b1,b1,b1,b1,b1,b0,b0,b0,b1,b1,b1,b0,b0,b0,b0,b0,b0],[b1,b1,b1,b1,b1,b1,b0,b0,b0,b0,b1,b1,b1,b1,b0,b0,b0,b0,b0],[b1,b1,b1,b1,b1,b1,b1,b1,b1,b1,b1,b0,b0,b0,b0,b0,b0,b0,b0],[b1,b1,b1,b1,b1,b1,b1,b1,b1,b0,b1,b1,b0,b0,b0,b0,b0,b0,b0],[b1,b1,b1,b1,b1,b1,b1,b1,b0,b0,b1,b1,b1,b0,b0,b0,b0,b0,b0],[b1,b1,b1,b1,b1,b1,b1,b0,b0,b0,b1,b1,b1,b1,b0,b0,b0,b0,b0],[b1,b1,b1,b1,b1,b1,b1,b1,b1,b1,b1,b1,b0,b0,b0,b0,b0,b0,b0],[b1,b1,b1,b1,b1,b1,b1,b1,b1,b0,b1,b1,b1,b0,b0,b0,b0,b0,b0],[b1,b1,b1,b1,b1,b1,b1,b1,b0,b0,b1,b1,b1,b1,b0,b0,b0,b0,b0],[b1,b1,b1,b1,b1,b1,b1,b1,b1,b1,b1,b1,b1,b0,b0,b0,b0,b0,b0],[b1,b1,b1,b1,b1,b1,b1,b1,b1,b0,b1,b1,b1,b1,b0,b0,b0,b0,b0],[b1,b1,b1,b1,b1,b1,b1,b1,b1,b1,b1,b1,b1,b1,b0,b0,b0,b0,b0],[b1,b1,b1,b1,b1,b1,b1,b1,b1,b1,b1,b1,b1,b1,b1,b0,b0,b0,b0],[b1,b1,b1,b1,b1,b1,b1,b1,b1,b1,b1,b1,b1,b1,b1,b1,b0,b0,b0],[b1,b1,b1,b1,b1,b1,b1,b1,b1,b1,b1,b1,b1,b1,b1,b1,b1,b0,b0],[b1,b1,b1,b1,b1,b1,b1,b1,b1,b1,b1,b1,b1,b1,b1,b1,b1,b1,b0],[b1,b1,b1,b1,b1,b1,b1,b1,b1,b1,b1,b1,b1,b1,b1,b1,b1,b1,b1]]
theorem atoi_neg {t:Str} (hl:1≤t.length) (h:t.all digByte=true):Lib.atoi (45::t)=some (- valN t):=by
 cases t with
 |nil=>simp at hl
 |cons b r=>
  obtain ⟨n,h1,h2⟩:=dec_val (b::r) 0 h
  unfold Lib.atoi
  simp only [beq_self_eq_true,if_true,Lib.decNat,List.isEmpty_cons,Bool.false_eq_true,if_false,h1,Option.map_some]
  rw [h2]
  rfl
theorem num_atoi {s:Str} {i:Nat} (h1:digAt s (numF s i)=true):Lib.atoi (part s i (numE s (numF s i)))=some (numV (part s i (numE s (numF s i))))∧(part s i (numE s (numF s i))).length≤14∧i≤numF s i∧numF s i < numE s (numF s i)∧numE s (numF s i)≤s.length:=by
 obtain ⟨t,a1,a2,a3,a4,a5,a6⟩:=numE_ate h1
 have hE:=a1.at_
 have hle:numE s (numF s i)≤s.length:=by
  have hd:=congrArg List.length a1.drop
  rw [List.length_append,List.length_drop,List.length_drop] at hd
  omega
 by_cases hm:startsAt s [45] i=true
 ·have e:numF s i=i+1:=by unfold numF;rw [if_pos hm]
  rw [e] at a1 hE hle ⊢
  have g:Ate s i (45::t) (numE s (i+1)):=(starts_ate hm).trans a1
  rw [part_ate g]
  exact ⟨atoi_neg a3 a2,by rw [List.length_cons];omega,by omega,by omega,hle⟩
 ·have e:numF s i=i:=by unfold numF;rw [if_neg hm]
  rw [e] at a1 hE hle ⊢
  rw [part_ate a1,numV_dig a2]
  exact ⟨atoi_val a3 a2,by omega,by omega,by omega,hle⟩
theorem numF_ge (s:Str) (i:Nat):i≤numF s i:=by unfold numF;split<;>omega
theorem is_gen (s t:Str) (i f:Nat) (y:Bool) (h:startsAt s t i=y) (hf:(if startsAt s t i=true then i+t.length else i)=f) (hi:i≤s.length) (hs:s.length≤100000000) (ht:t.length≤100):
  SemO Tryz.prog 30 (.obj [.str s,.int .i64 i,.bool false]) [.str t] (.bool y) (some (.obj [.str s,.int .i64 f,.bool false])):=by
 have h1:=is_sem s t (i,false) hi hs ht
 unfold isS at h1
 dsimp only at h1
 rw [h] at h1 hf
 cases y with
 |true=>
  rw [if_pos rfl] at hf
  subst hf
  exact h1
 |false=>
  rw [if_neg (by decide)] at hf
  subst hf
  exact h1
theorem num_t (s:Str) (i:Nat) (hs:s.length≤100000000):SemO Tryz.prog 68 (.obj [.str s,.int .i64 i,.bool true]) [] (.int .i64 0) (some (.obj [.str s,.int .i64 i,.bool true])):=by
 refine sO [0,5000008,6000024,1000016,1000020,1000030,1000033,1000034,1000038,1000040,1000041,1000068] Tryz.func68 ?_
 repeat'((conv=>whnf);first|((with_reducible apply DrawI.at 41 idl68_8);exact rfl;kernel_rfl)|with_reducible apply ExE.go|((with_reducible apply EqF.mk);exact rfl)|with_reducible apply AndI.mk|with_reducible exact trivial|(try(first|apply eN|apply eI|apply eC);conv=>whnf);apply sD;(focus(try intro hc;have hc0:=hc;(try simp only[SPLT]at hc);try refine and0 ?_);first|(refine gx (digit_sem ?_ ?_ ?_ ?_)<;>exact pre)|(refine gx (atoi_sem ?_ ?_ ?_ ?_)<;>exact pre)|exact sideG)|((with_reducible apply CallO.go);(conv=>whnf);apply sD;(focus first|(apply giveso_g (is_gen _ _ _ _ _ _ _ _ _ _);all_goals exact preO)|(apply giveso_g (is_sem _ _ _ _ _ _);all_goals exact preO)))|(first|apply dG|apply kB);kernel_rfl|apply rR|apply rE|apply rH| (apply cD<;>intro hb<;>(try simp only[SPLT]at hb)<;>try exact noB))
 all_goals try exact false
 exact finR
theorem digAt_lt {s:Str} {i:Nat} (h:digAt s i=true):i < s.length:=by
 obtain ⟨c,hc,_⟩:=digAt_some h
 exact (gLt hc)
theorem num_f (s : Str) (i f : Nat) (neg : Bool) (hneg : startsAt s [45] i = neg) (hf : numF s i = f) (hi : i ≤ s.length) (hs : s.length ≤ 100000000) :
    SemO Tryz.prog 68 (.obj [.str s, .int .i64 i, .bool false]) [] (.int .i64 (numI s i).1) (some (.obj [.str s, .int .i64 (numI s i).2.1, .bool (numI s i).2.2])) := by
  have his := is_gen s [45] i f neg hneg hf hi hs (by decide)
  have hat := num_atoi (s := s) (i := i)
  have hif := numF_ge s i
  unfold numI
  rw [hneg]
  rw [hf] at hat hif ⊢
  have hd0 := digit_sem s f false hs
  cases h1 : digAt s f with
  |false =>
    rw [h1] at hd0
    rw [if_pos (.inl rfl)]
    refine sO [0, 5000008, 6000024, 1000016, 1000020, 1000030, 1000033, 1000034, 1000038, 1000040, 1000041, 1000068] Tryz.func68 ?_
    repeat' (
      (conv => whnf)
      first
        |((with_reducible apply DrawI.at 41 idl68_8); exact rfl; kernel_rfl)
        |with_reducible apply ExE.go
        |((with_reducible apply EqF.mk); exact rfl)
        |with_reducible apply AndI.mk
        |with_reducible exact trivial
        |((try ((first | apply eN | apply eI | apply eC); (conv => whnf))); (apply sD); (focus ((first | (intro hc; have hc0 := hc; (try simp only [SPLT] at hc); (try refine and0 ?_)) | skip); first | exact gx hd0 | (refine gx (digit_sem ?_ ?_ ?_ ?_) <;> exact pre) | (refine gx (atoi_sem ?_ ?_ ?_ ?_) <;> exact pre) | exact sideG)))
        |((with_reducible apply CallO.go); (conv => whnf); apply sD; (focus first | (apply giveso_g (his); all_goals exact preO)))
        |((first | apply dG | apply kB); kernel_rfl)
        |(first | apply rR | apply rE | apply rH)
        | ((apply cD) <;> intro hb <;> (try simp only [SPLT] at hb) <;> (try first | exact noB)))
    all_goals try exact false
    exact finR
  |true =>
    obtain ⟨hA1, hA2, hA3, hA4, hA5⟩ := hat h1
    obtain ⟨c, hc, hcd⟩ := digAt_some h1
    have hflt := digAt_lt h1
    have hgd := getD_some hc
    rw [h1] at hd0
    by_cases h48 : c = 48
    · subst h48
      have hE : numE s f = f + 1 := by unfold numE; rw [if_pos hc]
      rw [hE] at hA1 hA2 hA4 hA5 ⊢
      have hd1 := digit_sem s (f + 1) false hs
      have hA : Sem Tryz.prog 89 [.str ((s.take ((f + 1 : Nat) : Int).toNat).drop ((i : Int)).toNat)] (.tup [.int .i64 (numV (part s i (f + 1))), .pv .nilIface]) := by
        rw [part_cut]
        exact atoi_sem _ _ (by omega) hA1
      cases neg with
      |true =>
        rw [if_pos (.inr ⟨rfl, hc⟩)]
        refine sO [0, 5000008, 6000024, 1000016, 1000020, 1000030, 1000033, 1000034, 1000038, 1000040, 1000041, 1000068] Tryz.func68 ?_
        repeat' (
          (conv => whnf)
          first
            |((with_reducible apply DrawI.at 41 idl68_8); exact rfl; kernel_rfl)
            |with_reducible apply ExE.go
            |((with_reducible apply EqF.mk); exact rfl)
            |with_reducible apply AndI.mk
            |with_reducible exact trivial
            |((try ((first | apply eN | apply eI | apply eC); (conv => whnf))); (apply sD); (focus ((first | (intro hc; have hc0 := hc; (try simp only [SPLT] at hc); (try refine and0 ?_)) | skip); first | exact gx hd0 | (refine gx (digit_sem ?_ ?_ ?_ ?_) <;> exact pre) | (refine gx (atoi_sem ?_ ?_ ?_ ?_) <;> exact pre) | exact sideG)))
            |((with_reducible apply CallO.go); (conv => whnf); apply sD; (focus first | (apply giveso_g (his); all_goals exact preO)))
            |((first | apply dG | apply kB); kernel_rfl)
            |(first | apply rR | apply rE | apply rH)
            | ((apply cD) <;> intro hb <;> (try simp only [SPLT] at hb) <;> (try first | exact noB | ((exfalso; rw [hgd] at hb; simp at hb; done); done) | ((exfalso; rw [hgd] at hb; exact hb rfl); done))))
        all_goals try exact false
        exact finR
      |false =>
        rw [if_neg (by simp)]
        cases h2 : digAt s (f + 1) with
        |true =>
          rw [if_pos rfl]
          rw [h2] at hd1
          dsimp only
          simp only [Int.natCast_add, Int.natCast_one] at *
          refine sO [0, 5000008, 6000024, 1000016, 1000020, 1000030, 1000033, 1000034, 1000038, 1000040, 1000041, 1000068] Tryz.func68 ?_
          repeat' (
            (conv => whnf)
            first
              |((with_reducible apply DrawI.at 41 idl68_8); exact rfl; kernel_rfl)
              |with_reducible apply ExE.go
              |((with_reducible apply EqF.mk); exact rfl)
              |with_reducible apply AndI.mk
              |with_reducible exact trivial
              |((try ((first | apply eN | apply eI | apply eC); (conv => whnf))); (apply sD); (focus ((first | (intro hc; have hc0 := hc; (try simp only [SPLT] at hc); (try refine and0 ?_)) | skip); first | exact gx hd0 | exact gx hd1 | (refine gx (digit_sem ?_ ?_ ?_ ?_) <;> exact pre) | (refine gx (atoi_sem ?_ ?_ ?_ ?_) <;> exact pre) | exact sideG)))
              |((with_reducible apply CallO.go); (conv => whnf); apply sD; (focus first | (apply giveso_g (his); all_goals exact preO)))
              |((first | apply dG | apply kB); kernel_rfl)
              |(first | apply rR | apply rE | apply rH)
              | ((apply cD) <;> intro hb <;> (try simp only [SPLT] at hb) <;> (try first | exact noB | ((exfalso; rw [hgd] at hb; simp at hb; done); done) | ((exfalso; rw [hgd] at hb; exact hb rfl); done))))
          all_goals try exact false
          exact finR
        |false =>
          rw [if_neg (by decide)]
          rw [h2] at hd1
          dsimp only
          simp only [Int.natCast_add, Int.natCast_one] at *
          refine sO [0, 5000008, 6000024, 1000016, 1000020, 1000030, 1000033, 1000034, 1000038, 1000040, 1000041, 1000068] Tryz.func68 ?_
          repeat' (
            (conv => whnf)
            first
              |((with_reducible apply DrawI.at 41 idl68_8); exact rfl; kernel_rfl)
              |with_reducible apply ExE.go
              |((with_reducible apply EqF.mk); exact rfl)
              |with_reducible apply AndI.mk
              |with_reducible exact trivial
              |((try ((first | apply eN | apply eI | apply eC); (conv => whnf))); (apply sD); (focus ((first | (intro hc; have hc0 := hc; (try simp only [SPLT] at hc); (try refine and0 ?_)) | skip); first | exact gx hd0 | exact gx hd1 | exact gx hA | (refine gx (digit_sem ?_ ?_ ?_ ?_) <;> exact pre) | (refine gx (atoi_sem ?_ ?_ ?_ ?_) <;> exact pre) | exact sideG)))
              |((with_reducible apply CallO.go); (conv => whnf); apply sD; (focus first | (apply giveso_g (his); all_goals exact preO)))
              |((first | apply dG | apply kB); kernel_rfl)
              |(first | apply rR | apply rE | apply rH)
              | ((apply cD) <;> intro hb <;> (try simp only [SPLT] at hb) <;> (try first | exact noB | ((exfalso; rw [hgd] at hb; simp at hb; done); done) | ((exfalso; rw [hgd] at hb; exact hb rfl); done))))
          all_goals try exact false
          exact finR
    · have hE : numE s f = digsEnd s 13 f := by unfold numE; rw [if_neg (by rw [hc]; exact fun h => h48 (Option.some.inj h))]
      rw [hE] at hA1 hA2 hA4 hA5 ⊢
      rw [if_neg (by rw [hc]; rintro (h | ⟨_, h⟩); · cases h
                     · exact h48 (Option.some.inj h))]
      have n48 : (c.toNat : Int) ≠ 48 := fun e => h48 (UInt8.toNat_inj.1 (by show c.toNat = 48; omega))
      generalize hG : digsEnd s 13 f = e at hA1 hA2 hA4 hA5 ⊢
      refine sO [0, 5000008, 6000024, 1000016, 1000020, 1000030, 1000033, 1000034, 1000038, 1000040, 1000041, 1000068] Tryz.func68 ?_
      repeat' (
        (conv => whnf)
        first
          |((with_reducible apply DrawI.at 41 idl68_8); exact rfl; kernel_rfl)
          |with_reducible apply ExE.go
          |((with_reducible apply EqF.mk); exact rfl)
          |with_reducible apply AndI.mk
          |with_reducible exact trivial
          |((try ((first | apply eN | apply eI | apply eC); (conv => whnf))); (apply sD); (focus ((first | (intro hc; have hc0 := hc; (try simp only [SPLT] at hc); (try refine and0 ?_)) | skip); first | exact gx hd0 | (refine gx (digit_sem ?_ ?_ ?_ ?_) <;> exact pre) | (refine gx (atoi_sem ?_ ?_ ?_ ?_) <;> exact pre) | exact sideG)))
          |((with_reducible apply CallO.go); (conv => whnf); apply sD; (focus first | (apply giveso_g (his); all_goals exact preO)))
          |((first | apply dG | apply kB); kernel_rfl)
          |(first | apply rR | apply rE | apply rH)
          | ((apply cD) <;> intro hb <;> (try simp only [SPLT] at hb) <;> (try first | exact noB | ((exfalso; rw [hgd] at hb; simp at hb; omega); done) | ((exfalso; rw [hgd] at hb; omega); done))))
      all_goals try exact false
      refine loop_go (M := fun t => mem t [0, 6000024, 1000016, 1000020, 1000030, 1000033, 1000034, 1000038, 1000040, 1000041, 1000068]) hT hM (fun j : Nat => [(0, .obj [.str s, .int .i64 j, .bool false])]) (fun j => (f ≤ j ∧ j ≤ f + 13 ∧ j ≤ s.length) ∧ digsEnd s (13 - (j - f)) j = e) (fun j => f + 13 - j) (f) ?_ ?_ ?_
      · exact finF
      · exact ⟨⟨Nat.le_refl _, by omega, by omega⟩, by rw [Nat.sub_self]; exact hG⟩
      · rintro j ⟨⟨hfj, hj13, hjl⟩, he⟩
        have hdj := digit_sem s j false hs
        cases hdg : digAt s j with
        |true =>
          rw [hdg] at hdj
          have hjlt := digAt_lt hdg
          by_cases hlast : j = f + 13
          · rw [show 13 - (j - f) = 0 by omega] at he
            have he : j = e := he
            subst he
            rw [if_pos hdg]
            repeat' (
              (conv => whnf)
              first
                |((with_reducible apply DrawI.at 41 idl68_8); exact rfl; kernel_rfl)
                |with_reducible apply ExE.go
                |((with_reducible apply EqF.mk); exact rfl)
                |with_reducible apply AndI.mk
                |with_reducible exact trivial
                |((try ((first | apply eN | apply eI | apply eC); (conv => whnf))); (apply sD); (focus ((first | (intro hc; have hc0 := hc; (try simp only [SPLT] at hc); (try refine and0 ?_)) | skip); first | exact gx hdj | (refine gx (digit_sem ?_ ?_ ?_ ?_) <;> exact pre) | (refine gx (atoi_sem ?_ ?_ ?_ ?_) <;> exact pre) | exact sideG)))
                |((with_reducible apply CallO.go); (conv => whnf); apply sD; (focus first | (apply giveso_g (is_gen _ _ _ _ _ _ _ _ _ _); all_goals exact preO) | (apply giveso_g (is_sem _ _ _ _ _ _); all_goals exact preO)))
                |((first | apply dG | apply kB); kernel_rfl)
                |(first | apply rR | apply rE | apply rH)
                | ((apply cD) <;> intro hb <;> (try simp only [SPLT] at hb) <;> (try first | exact noB | ((exfalso; simp at hb; omega); done))))
            all_goals try exact false
            exact finR
          · have he2 : digsEnd s (13 - (j + 1 - f)) (j + 1) = e := by
              rw [show 13 - (j - f) = (13 - (j + 1 - f)) + 1 by omega] at he
              unfold digsEnd at he
              rwa [if_pos hdg] at he
            repeat' (
              (conv => whnf)
              first
                |((with_reducible apply DrawI.at 41 idl68_8); exact rfl; kernel_rfl)
                |with_reducible apply ExE.go
                |((with_reducible apply EqF.mk); exact rfl)
                |with_reducible apply AndI.mk
                |with_reducible exact trivial
                |((try ((first | apply eN | apply eI | apply eC); (conv => whnf))); (apply sD); (focus ((first | (intro hc; have hc0 := hc; (try simp only [SPLT] at hc); (try refine and0 ?_)) | skip); first | exact gx hdj | (refine gx (digit_sem ?_ ?_ ?_ ?_) <;> exact pre) | (refine gx (atoi_sem ?_ ?_ ?_ ?_) <;> exact pre) | exact sideG)))
                |((with_reducible apply CallO.go); (conv => whnf); apply sD; (focus first | (apply giveso_g (is_gen _ _ _ _ _ _ _ _ _ _); all_goals exact preO) | (apply giveso_g (is_sem _ _ _ _ _ _); all_goals exact preO)))
                |((first | apply dG | apply kB); kernel_rfl)
                |(first | apply rR | apply rE | apply rH)
                | ((apply cD) <;> intro hb <;> (try simp only [SPLT] at hb) <;> (try first | exact noB | ((exfalso; simp at hb; omega); done))))
            all_goals try exact false
            refine ⟨j + 1, ⟨⟨by omega, by omega, by omega⟩, he2⟩, by omega, ?_⟩
            exact finF
        |false =>
          rw [hdg] at hdj
          have he3 : j = e := by
            cases hn : 13 - (j - f) with
            |zero => rw [hn] at he; exact he
            |succ n =>
              rw [hn] at he
              unfold digsEnd at he
              rwa [if_neg (by rw [hdg]; decide)] at he
          subst he3
          rw [if_neg (by rw [hdg]; decide)]
          have hA : Sem Tryz.prog 89 [.str ((s.take ((j : Int)).toNat).drop ((i : Int)).toNat)] (.tup [.int .i64 (numV (part s i j)), .pv .nilIface]) := by
            rw [part_cut]
            exact atoi_sem _ _ (by omega) hA1
          repeat' (
            (conv => whnf)
            first
              |((with_reducible apply DrawI.at 41 idl68_8); exact rfl; kernel_rfl)
              |with_reducible apply ExE.go
              |((with_reducible apply EqF.mk); exact rfl)
              |with_reducible apply AndI.mk
              |with_reducible exact trivial
              |((try ((first | apply eN | apply eI | apply eC); (conv => whnf))); (apply sD); (focus ((first | (intro hc; have hc0 := hc; (try simp only [SPLT] at hc); (try refine and0 ?_)) | skip); first | exact gx hdj | exact gx hA | (refine gx (digit_sem ?_ ?_ ?_ ?_) <;> exact pre) | (refine gx (atoi_sem ?_ ?_ ?_ ?_) <;> exact pre) | exact sideG)))
              |((with_reducible apply CallO.go); (conv => whnf); apply sD; (focus first | (apply giveso_g (is_gen _ _ _ _ _ _ _ _ _ _); all_goals exact preO) | (apply giveso_g (is_sem _ _ _ _ _ _); all_goals exact preO)))
              |((first | apply dG | apply kB); kernel_rfl)
              |(first | apply rR | apply rE | apply rH)
              | ((apply cD) <;> intro hb <;> (try simp only [SPLT] at hb) <;> (try first | exact noB | ((exfalso; simp at hb; done); done))))
          all_goals try exact false
          exact finR
theorem number_sem (s:Str) (q:Pl) (hq:q.1≤s.length) (hs:s.length≤100000000):
  SemO Tryz.prog 68 (.obj (pC s q)) [] (.int .i64 (numS s q).1) (some (.obj (pC s (numS s q).2))):=by
 obtain ⟨i,b⟩:=q
 cases b with
 |true=>exact num_t s i hs
 |false=>exact num_f s i _ _ rfl rfl hq hs
end Go.Proofs.YtindehjiaknokaaGreatDoor
