/- Short conditions: the reference's (walk). -/
import Derived.Test.YtbphihljkbdfpaaGreatDoorZ24
namespace Go.Proofs.YtbphihljkbdfpaaGreatDoor
set_option linter.unusedSimpArgs false
set_option linter.unusedVariables false
open Go.RowKit
set_option maxRecDepth 100000
set_option maxHeartbeats 40000000
def idl40_15 : List (List Bool) := [[false, false, false, false, false, false, false, false, false, false, false, false, false, false, false, false, false, false], [true, false, false, false, false, false, false, false, false, false, false, false, false, false, false, false, false, false], [true, true, false, false, false, false, false, false, false, false, false, false, false, false, false, false, false, false], [true, true, true, false, false, false, false, false, false, false, false, false, false, false, false, false, false, false], [true, true, true, true, false, false, false, false, false, false, false, false, false, false, false, false, false, false], [true, true, true, true, true, false, false, false, false, false, false, false, false, false, false, false, false, false], [true, true, true, true, true, true, false, false, false, false, false, false, false, false, false, false, false, false], [true, true, true, true, true, true, true, false, false, false, false, false, false, false, false, false, false, false], [true, true, true, true, true, true, true, true, false, false, false, false, false, false, false, false, false, false], [true, true, true, true, true, true, true, true, true, false, false, false, false, false, false, false, false, false], [true, true, true, true, true, true, true, true, true, true, false, false, false, false, false, false, false, false], [true, true, true, true, true, true, true, true, true, false, false, true, false, false, false, false, false, false], [true, true, true, true, true, true, true, true, true, false, false, false, true, false, false, false, false, false], [true, true, true, true, true, true, true, true, true, true, true, false, false, false, false, false, false, false], [true, true, true, true, true, true, true, true, true, true, false, true, false, false, false, false, false, false], [true, true, true, true, true, true, true, true, true, true, false, false, true, false, false, false, false, false], [true, true, true, true, true, true, true, true, true, false, false, true, true, false, false, false, false, false], [true, true, true, true, true, true, true, true, true, true, true, true, false, false, false, false, false, false], [true, true, true, true, true, true, true, true, true, true, true, false, true, false, false, false, false, false], [true, true, true, true, true, true, true, true, true, true, false, true, true, false, false, false, false, false], [true, true, true, true, true, true, true, true, true, false, false, true, true, true, false, false, false, false], [true, true, true, true, true, true, true, true, true, true, true, true, true, false, false, false, false, false], [true, true, true, true, true, true, true, true, true, true, false, true, true, true, false, false, false, false], [true, true, true, true, true, true, true, true, true, false, false, true, true, true, true, false, false, false], [true, true, true, true, true, true, true, true, true, true, true, true, true, true, false, false, false, false], [true, true, true, true, true, true, true, true, true, true, false, true, true, true, true, false, false, false], [true, true, true, true, true, true, true, true, true, true, true, true, true, true, true, false, false, false], [true, true, true, true, true, true, true, true, true, true, true, true, true, true, true, true, false, false], [true, true, true, true, true, true, true, true, true, true, true, true, true, true, true, true, true, false], [true, true, true, true, true, true, true, true, true, true, true, true, true, true, true, true, true, true]]
def idl40_16 : List (List Bool) := [[false, false, false, false, false, false, false, false, false, false], [true, false, false, false, false, false, false, false, false, false], [false, false, true, false, false, false, false, false, false, false], [false, false, false, true, false, false, false, false, false, false], [true, true, false, false, false, false, false, false, false, false], [true, false, true, false, false, false, false, false, false, false], [true, false, false, true, false, false, false, false, false, false], [false, false, true, true, false, false, false, false, false, false], [true, true, true, false, false, false, false, false, false, false], [true, true, false, true, false, false, false, false, false, false], [true, false, true, true, false, false, false, false, false, false], [false, false, true, true, true, false, false, false, false, false], [true, true, true, true, false, false, false, false, false, false], [true, false, true, true, true, false, false, false, false, false], [false, false, true, true, true, true, false, false, false, false], [true, true, true, true, true, false, false, false, false, false], [true, false, true, true, true, true, false, false, false, false], [false, false, true, true, true, true, true, false, false, false], [true, true, true, true, true, true, false, false, false, false], [true, false, true, true, true, true, true, false, false, false], [true, true, true, true, true, true, true, false, false, false], [true, true, true, true, true, true, true, true, false, false], [true, true, true, true, true, true, true, true, true, false], [true, true, true, true, true, true, true, true, true, true]]
def idl40_26 : List (List Bool) := [[false, false, false, false, false, false, false, false, false, false], [true, false, false, false, false, false, false, false, false, false], [false, false, true, false, false, false, false, false, false, false], [false, false, false, false, true, false, false, false, false, false], [true, true, false, false, false, false, false, false, false, false], [true, false, true, false, false, false, false, false, false, false], [true, false, false, false, true, false, false, false, false, false], [false, false, true, true, false, false, false, false, false, false], [false, false, true, false, true, false, false, false, false, false], [true, true, true, false, false, false, false, false, false, false], [true, true, false, false, true, false, false, false, false, false], [true, false, true, true, false, false, false, false, false, false], [true, false, true, false, true, false, false, false, false, false], [false, false, true, true, true, false, false, false, false, false], [true, true, true, true, false, false, false, false, false, false], [true, true, true, false, true, false, false, false, false, false], [true, false, true, true, true, false, false, false, false, false], [false, false, true, true, true, true, false, false, false, false], [true, true, true, true, true, false, false, false, false, false], [true, false, true, true, true, true, false, false, false, false], [false, false, true, true, true, true, true, false, false, false], [true, true, true, true, true, true, false, false, false, false], [true, false, true, true, true, true, true, false, false, false], [false, false, true, true, true, true, true, true, false, false], [true, true, true, true, true, true, true, false, false, false], [true, false, true, true, true, true, true, true, false, false], [true, true, true, true, true, true, true, true, false, false], [true, true, true, true, true, true, true, true, true, false], [true, true, true, true, true, true, true, true, true, true]]
def idl40_28 : List (List Bool) := [[false, false, false, false, false, false, false], [true, false, false, false, false, false, false], [false, true, false, false, false, false, false], [false, false, false, false, false, true, false], [true, true, false, false, false, false, false], [true, false, false, false, false, true, false], [false, true, true, false, false, false, false], [false, true, false, false, false, true, false], [true, true, true, false, false, false, false], [true, true, false, false, false, true, false], [false, true, true, false, false, true, false], [true, true, true, true, false, false, false], [true, true, true, false, false, true, false], [true, true, true, true, true, false, false], [true, true, true, true, false, true, false], [true, true, true, true, true, true, false], [true, true, true, true, true, true, true]]

/-- Kinds that have no conditions within have none. -/
inductive Cond.Bare : Cond → Prop where
 | mk {k : Int} {ks : List Cond} {p : Str} {vs : List Str} {lo hi : Int} (h : usesOfB k = false → ks = []) (h2 : usesOfB k = true → ks ≠ []) (h4 : ∀ x ∈ ks, x.Bare) : (Cond.mk k ks p vs lo hi).Bare
theorem own_bare {k : Int} {nk : Nat} {p : Str} {vs : List Str} {lo hi : Int} (h : ownErr k nk p vs lo hi = 0) (hu : usesOfB k = false) : nk = 0 := by
 unfold ownErr at h
 split at h
 ·cases h
 ·split at h
  ·cases h
  ·rename_i hf
   have hf : formB k nk p vs.length lo hi = false := by simpa using hf
   unfold formB at hf
   rw [hu] at hf
   simp only [Bool.or_eq_false_iff] at hf
   have := hf.1.1.1.1
   simp at this
   omega
theorem own_use {k : Int} {nk : Nat} {p : Str} {vs : List Str} {lo hi : Int} (h : ownErr k nk p vs lo hi = 0) (hu : usesOfB k = true) : nk ≠ 0 := by
 unfold ownErr at h
 split at h
 ·cases h
 ·split at h
  ·cases h
  ·rename_i hf
   have hf : formB k nk p vs.length lo hi = false := by simpa using hf
   unfold formB at hf
   rw [hu] at hf
   simp only [Bool.or_eq_false_iff] at hf
   have := hf.2
   intro e
   subst e
   simp at this
theorem chks_bare {d : Int} : ∀ (l : List Cond), (∀ c ∈ l, ∀ n, (c.chk d n).2 = 0 → c.Bare) → ∀ n, (Cond.chks l d n).2 = 0 → ∀ c ∈ l, c.Bare
 | [], _, _, _ => by simp
 | c :: l, hc, n, h => by
  have hat := chks_at (l := c :: l) (i := 0) (c := c) rfl d n
  rw [List.drop_zero] at hat
  rw [hat] at h
  by_cases he : (c.chk d n).2 = 0
  ·rw [if_neg (by simp [he])] at h
   intro x hx
   rcases List.mem_cons.1 hx with rfl | hx
   ·exact hc _ (by simp) n he
   ·exact chks_bare l (fun y hy => hc y (by simp [hy])) _ h x hx
  ·rw [if_pos he] at h
   exact absurd h he
theorem chk_bare (c : Cond) : ∀ d n : Int, (c.chk d n).2 = 0 → c.Bare := by
 induction c using Cond.ind with
 | h k ks p vs lo hi ih =>
  intro d n h
  rw [chk_mk] at h
  split at h
  ·cases h
  ·split at h
   ·rename_i he
    exact absurd h he
   ·rename_i he
    exact .mk (fun hu => List.eq_nil_of_length_eq_zero (own_bare (by simpa using he) hu)) (fun hu e => own_use (by simpa using he) hu (by rw [e]; rfl)) (chks_bare ks (fun c hc n hn => ih c hc (d + 1) n hn) _ h)
/-- What the reference puts behind others. -/
def addR (k : Int) (acc : List Cond) (y : Cond) : List Cond := if (k = 1 ∨ k = 2) ∧ hasC acc y = true then acc else acc ++ [y]
def innerR (k : Int) (x : Cond) : List Cond := if x.kind = k ∧ (k = 1 ∨ k = 2) then x.kids else [x]
def flatR (k : Int) : List Cond → List Cond → List Cond
 | [], acc => acc
 | x :: l, acc => flatR k l ((innerR k x).foldl (addR k) acc)
theorem flatR_at {k : Int} {l : List Cond} {i : Nat} {x : Cond} (h : l[i]? = some x) (acc : List Cond) : flatR k (l.drop i) acc = flatR k (l.drop (i + 1)) ((innerR k x).foldl (addR k) acc) := by
 rw [List.drop_eq_getElem_cons (List.getElem?_eq_some_iff.1 h).1, (List.getElem?_eq_some_iff.1 h).2, flatR]
theorem foldR_at {k : Int} {l : List Cond} {i : Nat} {x : Cond} (h : l[i]? = some x) (acc : List Cond) : (l.drop i).foldl (addR k) acc = (l.drop (i + 1)).foldl (addR k) (addR k acc x) := by
 rw [List.drop_eq_getElem_cons (List.getElem?_eq_some_iff.1 h).1, (List.getElem?_eq_some_iff.1 h).2, List.foldl_cons]
theorem foldR_eq {k : Int} (hk : k = 1 ∨ k = 2) : ∀ (l acc : List Cond), l.foldl (addR k) acc = l.foldl addC acc
 | [], _ => rfl
 | y :: l, acc => by
  rw [List.foldl_cons, List.foldl_cons, foldR_eq hk l]
  congr 1
  simp [addR, addC, hk]
theorem flatR_eq {k : Int} (hk : k = 1 ∨ k = 2) : ∀ (l acc : List Cond), flatR k l acc = flatC k l acc
 | [], _ => rfl
 | x :: l, acc => by
  rw [flatR, flatC, flatR_eq hk l, foldR_eq hk]
  simp [innerR, innerC, hk]
theorem flatR_app {k : Int} (hk : ¬ (k = 1 ∨ k = 2)) : ∀ (l acc : List Cond), flatR k l acc = acc ++ l
 | [], acc => by rw [flatR, List.append_nil]
 | x :: l, acc => by
  rw [flatR, flatR_app hk l, innerR, if_neg (fun h => hk h.2), List.foldl_cons, List.foldl_nil, addR, if_neg (fun h => hk h.1), List.append_assoc]
  rfl
/-- The list that grows in the object: nothing yet, or one's own. -/
def cellO : Nat → List Cond → D
 | 0, _ => .nil
 | s + 1, acc => .sl (s + 1) 6 (acc.map Cond.row)
theorem contra_at {acc : List Cond} {i : Nat} {x : Cond} (h : acc[i]? = some x) (hh : hasC acc (notC x) = true) : contraC acc = true := by
 unfold contraC
 rw [List.any_eq_true]
 exact ⟨x, List.mem_of_getElem? h, hh⟩
theorem numC_has (l : List Cond) (c : Cond) : decide (0 ≤ numC l c) = hasC l c := idxG_any (fun x : Cond => x.same c) l 0 (by omega)
/-- Own slices are given up for good ahead of a piece of code. -/
theorem ht_frzC {P : Program} (ts : List Nat) {c : Code} {fr : List D} {Q : Exit → List D → Prop} (h : forceL (ts.foldl (fun fr t => frz1 fr (.tmp t)) fr) fun fr => HT P c fr Q) : HT P c fr Q := by
 rw [forceL_eq] at h
 refine ⟨fun S w a hF Q' hQ => ?_⟩
 obtain ⟨S1, t1, h1⟩ := fold_sound (fun S fr t h => frz1_sound h (.tmp t)) ts _ _ hF
 exact h.h S1 w a h1 Q' fun e fr' S' w' a' k t f => hQ e fr' S' w' a' k (t1.trans t) f
theorem headD_of4 {l : List Cond} {y : Cond} (h : l[0]? = some y) : l.headD noneC = y := by
 cases l with
 | nil => simp at h
 | cons a t => exact Option.some.inj h
theorem acnts_sizes4 : ∀ l : List Cond, (∀ x ∈ l, x.acnt ≤ x.size) → Cond.acnts l ≤ Cond.sizes l
 | [], _ => by rw [acnts_nil]; exact Nat.zero_le _
 | x :: l, h => by
  have h1 := h x (by simp)
  have h2 := acnts_sizes4 l fun y hy => h y (by simp [hy])
  rw [acnts_cons, sizes_cons]
  omega
theorem acnt_size4 (c : Cond) : c.acnt ≤ c.size := by
 induction c using Cond.ind with
 | h k ks p vs lo hi ih =>
  rw [acnt_mk, size_mk]
  split
  ·omega
  ·have := acnts_sizes4 ks ih
   omega
theorem short4_sem (c : Cond) : c.Nice 200 → c.Bare → c.size ≤ 1000 → Sem Tryz.prog 40 [.agg c.row] (.agg c.short.row) := by
 induction c using Cond.ind with
 | h k ks p vs lo hi ih =>
  intro hN hB hA
  have hN' := hN
  obtain ⟨h1, h2, hp, hv0, hk, h4⟩ := hN'
  obtain ⟨b1, b2, b4⟩ := hB
  have hll : (ks.map Cond.row).length = ks.length := List.length_map _
  have hshN : ∀ x ∈ ks, x.short.Nice x.size := fun x hx => short_nice x 200 (h4 x hx)
  have hE := short_mk k ks p vs lo hi
  generalize hS : (Cond.mk k ks p vs lo hi).short = R at hE ⊢
  rw [endC] at hE
  have hat := isAtom4_sem k (ks.map Cond.row) p (vs.map fun s => [.str s]) lo hi
  have hau : usesOfB k = (!isAtomB k || (k == 7 || k == 8)) := by
   unfold usesOfB isAtomB
   cases (k == 1) <;> cases (k == 2) <;> cases (k == 3) <;> cases (k == 7) <;> cases (k == 8) <;> rfl
  have hak : isAtomB k = false ↔ k = 1 ∨ k = 2 ∨ k = 3 := by
   unfold isAtomB
   by_cases g1 : k = 1 <;> by_cases g2 : k = 2 <;> by_cases g3 : k = 3 <;> simp [g1, g2, g3]
  obtain ⟨k9, ks9, p9, vs9, lo9, hi9⟩ := R
  rw [Cond.row_mk, Cond.row_mk]
  generalize isAtomB k = q at hat hau hak
  refine sem_intro (M := fun t => mem t [2, 3, 4000003, 5, 9, 10, 5000015, 5000016, 5000026, 5000028, 1000048, 1000051, 1000063]) hT hM Tryz.func40 inferInstance rfl rfl rfl rfl rfl rfl ?_
  repeat' (
   (conv => whnf)
   first
    | ((with_reducible apply DrawI.at 64 idl40_15); (focus exact rfl); (focus kernel_rfl))
    | ((with_reducible apply DrawI.at 82 idl40_16); (focus exact rfl); (focus kernel_rfl))
    | ((with_reducible apply DrawI.at 133 idl40_26); (focus exact rfl); (focus kernel_rfl))
    | ((with_reducible apply DrawI.at 147 idl40_28); (focus exact rfl); (focus kernel_rfl))
    | with_reducible apply ExE.go
    | ((with_reducible apply EqF.mk); (focus exact rfl))
    | with_reducible apply AndI.mk
    | with_reducible exact trivial
    | ((try ((with_reducible first | apply NumE.go | apply IdxE.go | apply TextE.go | apply LookE.go | apply CallE.go); (conv => whnf))); (with_reducible apply SideD.mk); (focus ((first | (intro hc; have hc0 := hc; (try simp only [SPLT] at hc); (try refine And.intro (by first | exact hc0 | exact ⟨hc0, hc0⟩ | exact ⟨hc0, hc0, hc0⟩) ?_)) | skip); first | ((try apply givesl); (focus (first | ((apply gives_go (hat)); (focus (exact DLes.au)); (focus exact rfl); (all_goals (exact pre))) | ((first | apply gives_go (isAtom4_sem _ _ _ _ _ _) | apply gives_go (number_sem _ _) | apply gives_go (r4NotX_sem _ _ _ _ _ _) | apply gives_go (atoms4Nil_sem _ _) | apply gives_go (r4AnyX_sem _)); (focus (exact DLes.au)); (focus exact rfl); (all_goals (exact pre))))); (all_goals exact rfl)) | exact sideG)))
    | ((with_reducible apply CallO.go); (conv => whnf); (with_reducible apply SideD.mk); (focus (first | ((apply giveso_go (atoms4O_sem _ _ _)); (focus (first | exact rfl | (simp; done))); (focus (exact DLes.au)); (focus exact rfl); (all_goals (exact pre))))))
    | ((with_reducible first | apply DrawR.go0 | apply KerB.mk); (focus kernel_rfl))
    | (with_reducible first | apply ends_ret | apply ends_norm | apply Halt'.mk)
    | ((with_reducible apply CondD.mk) <;> intro hb <;> (try simp only [SPLT] at hb) <;> (try first | exact noB)))
  all_goals (try exact (false : Bool))
  ·have hq : q = true ∧ k ≠ 7 ∧ k ≠ 8 := by (try simp at hb); refine ⟨?_, ?_, ?_⟩ <;> simp_all
   obtain ⟨rfl, g7, g8⟩ := hq
   have hks := b1 (by rw [hau]; simp [g7, g8])
   subst hks
   have hnk : ¬ (k = 1 ∨ k = 2 ∨ k = 3) := fun h => by have := hak.2 h; cases this
   rw [if_neg (fun h => hnk (by omega)), if_neg (fun h => hnk (by omega))] at hE
   cases hE
   repeat' ((conv => whnf); first | exact endR | (with_reducible first | apply And.intro | apply endsO_ret | apply endsO_norm | apply DLes.cons))
   all_goals (conv => whnf)
   (first | refine rle_agg ?_ | refine dle_agg ?_ | skip)
   repeat' (first | exact endF | exact endF2 | with_reducible apply DLes.cons | with_reducible apply dle_agg)
  ·have hk78 : k = 1 ∨ k = 2 ∨ k = 3 ∨ k = 7 ∨ k = 8 := by
    cases q with
    | false => have := hak.1 rfl; omega
    | true => simp at hb; omega
   clear hb hat hau hak
   generalize hF : flatR k (ks.map Cond.short) [] = F
   refine loop_go (M := fun t => mem t [2, 3, 4000003, 5, 9, 10, 5000015, 5000016, 5000026, 5000028, 1000048, 1000051, 1000063]) hT hM (fun x : Nat × List Cond × Nat => [(4, .int .i64 x.1), (3, .obj [.int .i64 k, cellO x.2.2 x.2.1, .str p, .sl 0 1 (vs.map fun s => [.str s]), .int .i64 lo, .int .i64 hi])]) (fun x => x.1 ≤ ks.length ∧ x.2.1.length ≤ x.1 * 1000 ∧ flatR k ((ks.map Cond.short).drop x.1) x.2.1 = F ∧ x.2.2 ≤ 2 ∧ (x.2.2 = 0 → x.2.1 = [])) (fun x => ks.length - x.1) ((0, [], 0)) ?_ ?_ ?_
   ·(conv => whnf)
    refine ⟨?_, by rfl⟩
    repeat' ((conv => whnf); first | exact endF | exact endF2 | with_reducible apply DLes.cons)
   ·exact ⟨Nat.zero_le _, by simp, hF, by simp, by simp⟩
   ·rintro ⟨i, acc, s⟩ ⟨hi', hm, hv, hs2, hs0⟩
    dsimp only at hi' hm hv hs2 hs0 ⊢
    cases hx : ks[i]? with
    | none => as_aux_lemma =>
     have hm' := List.getElem?_eq_none_iff.1 hx
     rw [List.drop_of_length_le (by simp; omega), flatR] at hv
     subst hv
     have hacl : (acc.map Cond.row).length = acc.length := List.length_map _
     clear hx
     rcases s with _ | _ | _ | s
     ·by_cases hk3 : k = 3
      ·subst hk3
       rw [flatR_app (by omega), List.nil_append] at hF
       obtain rfl : ks.map Cond.short = acc := hF
       exact absurd (hs0 rfl) (by simp; exact hk (by omega))
      ·rw [if_neg (fun h => hk3 h.1)] at hE
       by_cases hk12 : k = 1 ∨ k = 2
       ·rw [if_pos hk12] at hE
        rw [flatR_eq hk12] at hF
        have hne : ks ≠ [] := hk (by omega)
        obtain ⟨f1, f2, f3, f4⟩ := flat_ok hk12 (n := Cond.sizes ks + 1) ks hshN (by omega) [] (by simp)
        have f4 := f4 hne
        rw [hF] at f4
        exact absurd (hs0 rfl) f4
       ·rw [if_neg hk12] at hE
        rw [flatR_app hk12, List.nil_append] at hF
        rw [hF] at hE
        have hE0 := hF
        cases hE
        exact absurd (hs0 rfl) (by rw [← hE0]; simp; exact b2 (by rcases hk78 with g | g | g | g | g <;> subst g <;> first | (exfalso; omega) | rfl))
     ·by_cases hk3 : k = 3
      ·subst hk3
       rw [flatR_app (by omega), List.nil_append] at hF
       obtain rfl : ks.map Cond.short = acc := hF
       obtain ⟨y, hy⟩ : ∃ y, (ks.map Cond.short)[0]? = some y := by
        have hne := hk (by omega)
        clear ih hN h4 b4 hshN b1 b2 hk hll
        cases ks with
        | nil => exact absurd rfl hne
        | cons a t => exact ⟨_, rfl⟩
       have hyh : (ks.map Cond.short).headD noneC = y := headD_of4 hy
       have hyk : y.kind = 3 → y.kids ≠ [] := fun e => by
        have hm := List.mem_of_getElem? hy
        obtain ⟨x, hx, rfl⟩ := List.mem_map.1 hm
        exact (nice_kids (hshN x hx)).2.2 (by omega)
       rw [hyh] at hE
       generalize ks.map Cond.short = ss at hy hE
       obtain ⟨k1, ks1, p1, vs1, lo1, hi1⟩ := y
       by_cases hk1 : k1 = 3
       ·subst hk1
        rw [if_pos ⟨rfl, rfl⟩] at hE
        obtain ⟨z, hz⟩ : ∃ z, ks1[0]? = some z := by
         have hz0 : ks1 ≠ [] := hyk rfl
         cases ks1 with
         | nil => exact absurd rfl hz0
         | cons z t => exact ⟨z, rfl⟩
        have hzh : ks1.headD noneC = z := headD_of4 hz
        replace hE : _ = ks1.headD noneC := hE
        rw [hzh] at hE
        subst hE
        repeat' (
         (conv => whnf)
         first
          | ((with_reducible apply DrawI.at 64 idl40_15); (focus exact rfl); (focus kernel_rfl))
          | ((with_reducible apply DrawI.at 82 idl40_16); (focus exact rfl); (focus kernel_rfl))
          | ((with_reducible apply DrawI.at 133 idl40_26); (focus exact rfl); (focus kernel_rfl))
          | ((with_reducible apply DrawI.at 147 idl40_28); (focus exact rfl); (focus kernel_rfl))
          | with_reducible apply ExE.go
          | ((with_reducible apply EqF.mk); (focus exact rfl))
          | with_reducible apply AndI.mk
          | with_reducible exact trivial
          | ((try ((with_reducible first | apply NumE.go | apply IdxE.go | apply TextE.go | apply LookE.go | apply CallE.go); (conv => whnf))); (with_reducible apply SideD.mk); (focus ((first | (intro hc; have hc0 := hc; (try simp only [SPLT] at hc); (try refine And.intro (by first | exact hc0 | exact ⟨hc0, hc0⟩ | exact ⟨hc0, hc0, hc0⟩) ?_)) | skip); first | (exact idx_row hy rfl) | (exact idx_row hz rfl) | ((try apply givesl); (focus (((first | apply gives_go (isAtom4_sem _ _ _ _ _ _) | apply gives_go (number_sem _ _) | apply gives_go (r4NotX_sem _ _ _ _ _ _) | apply gives_go (atoms4Nil_sem _ _) | apply gives_go (r4AnyX_sem _)); (focus (exact DLes.au)); (focus exact rfl); (all_goals (exact pre))))); (all_goals exact rfl)) | exact sideG)))
          | ((with_reducible apply CallO.go); (conv => whnf); (with_reducible apply SideD.mk); (focus (first | ((apply giveso_go (atoms4O_sem _ _ _)); (focus (first | exact rfl | (simp; done))); (focus (exact DLes.au)); (focus exact rfl); (all_goals (exact pre))))))
          | ((with_reducible first | apply DrawR.go0 | apply KerB.mk); (focus kernel_rfl))
          | (with_reducible first | apply ends_ret | apply ends_norm | apply Halt'.mk)
          | ((with_reducible apply CondD.mk) <;> intro hb <;> (try simp only [SPLT] at hb) <;> (try first | exact noB)))
        all_goals (try exact (false : Bool))
        repeat' ((conv => whnf); first | exact endR | (with_reducible first | apply And.intro | apply endsO_ret | apply endsO_norm | apply DLes.cons))
        all_goals (conv => whnf)
        (first | refine rle_agg ?_ | refine dle_agg ?_ | skip)
        repeat' (first | exact endF | exact endF2 | with_reducible apply DLes.cons | with_reducible apply dle_agg)
       ·rw [if_neg (fun h => hk1 h.2), if_neg (by omega)] at hE
        cases hE
        repeat' (
         (conv => whnf)
         first
          | ((with_reducible apply DrawI.at 64 idl40_15); (focus exact rfl); (focus kernel_rfl))
          | ((with_reducible apply DrawI.at 82 idl40_16); (focus exact rfl); (focus kernel_rfl))
          | ((with_reducible apply DrawI.at 133 idl40_26); (focus exact rfl); (focus kernel_rfl))
          | ((with_reducible apply DrawI.at 147 idl40_28); (focus exact rfl); (focus kernel_rfl))
          | with_reducible apply ExE.go
          | ((with_reducible apply EqF.mk); (focus exact rfl))
          | with_reducible apply AndI.mk
          | with_reducible exact trivial
          | ((try ((with_reducible first | apply NumE.go | apply IdxE.go | apply TextE.go | apply LookE.go | apply CallE.go); (conv => whnf))); (with_reducible apply SideD.mk); (focus ((first | (intro hc; have hc0 := hc; (try simp only [SPLT] at hc); (try refine And.intro (by first | exact hc0 | exact ⟨hc0, hc0⟩ | exact ⟨hc0, hc0, hc0⟩) ?_)) | skip); first | (exact idx_row hy rfl) | ((try apply givesl); (focus (((first | apply gives_go (isAtom4_sem _ _ _ _ _ _) | apply gives_go (number_sem _ _) | apply gives_go (r4NotX_sem _ _ _ _ _ _) | apply gives_go (atoms4Nil_sem _ _) | apply gives_go (r4AnyX_sem _)); (focus (exact DLes.au)); (focus exact rfl); (all_goals (exact pre))))); (all_goals exact rfl)) | exact sideG)))
          | ((with_reducible apply CallO.go); (conv => whnf); (with_reducible apply SideD.mk); (focus (first | ((apply giveso_go (atoms4O_sem _ _ _)); (focus (first | exact rfl | (simp; done))); (focus (exact DLes.au)); (focus exact rfl); (all_goals (exact pre))))))
          | ((with_reducible first | apply DrawR.go0 | apply KerB.mk); (focus kernel_rfl))
          | (with_reducible first | apply ends_ret | apply ends_norm | apply Halt'.mk)
          | ((with_reducible apply CondD.mk) <;> intro hb <;> (try simp only [SPLT] at hb) <;> (try first | exact noB)))
        all_goals (try exact (false : Bool))
        repeat' ((conv => whnf); first | exact endR | (with_reducible first | apply And.intro | apply endsO_ret | apply endsO_norm | apply DLes.cons))
        all_goals (conv => whnf)
        (first | refine rle_agg ?_ | refine dle_agg ?_ | skip)
        repeat' (first | exact endF | exact endF2 | with_reducible apply DLes.cons | with_reducible apply dle_agg)
      ·rw [if_neg (fun h => hk3 h.1)] at hE
       by_cases hk12 : k = 1 ∨ k = 2
       ·rw [if_pos hk12] at hE
        rw [flatR_eq hk12] at hF
        have hne : ks ≠ [] := hk (by omega)
        obtain ⟨f1, f2, f3, f4⟩ := flat_ok hk12 (n := Cond.sizes ks + 1) ks hshN (by omega) [] (by simp)
        have f4 := f4 hne
        have g1 := flat_acnt hk12 (ks.map Cond.short) []
        have g2 := map_acnt ks fun x hx => short_acnt x 200 (h4 x hx)
        have g3 := acnts_sizes4 ks fun x _ => acnt_size4 x
        rw [acnts_nil] at g1
        rw [size_mk] at hA
        rw [severalC, severalE] at hE
        rw [hF] at f1 f2 f4 g1 hE
        have hlen : acc.length ≤ 1000 := by simp at f2; omega
        have a1 := atoms4Nil_sem (.mk k acc p vs lo hi) (by rw [acnt_mk, if_neg (by rcases hk12 with rfl | rfl <;> decide)]; omega)
        have a2 := ats_ne (n := Cond.sizes ks + 1) (.mk k acc p vs lo hi) (.mk (by simp at f2; omega) h2 hp hv0 (fun _ => f4) f1) []
        rw [Cond.row_mk] at a1
        generalize (Cond.mk k acc p vs lo hi).ats [] = A at a1 a2 hE
        by_cases hl1 : acc.length = 1
        ·rw [if_pos hl1] at hE
         obtain ⟨x, rfl⟩ : ∃ x, acc = [x] := by
          match acc, hl1 with
          | [x], _ => exact ⟨x, rfl⟩
         replace hE : _ = x := hE
         subst hE
         repeat' (
          (conv => whnf)
          first
           | ((with_reducible apply DrawI.at 64 idl40_15); (focus exact rfl); (focus kernel_rfl))
           | ((with_reducible apply DrawI.at 82 idl40_16); (focus exact rfl); (focus kernel_rfl))
           | ((with_reducible apply DrawI.at 133 idl40_26); (focus exact rfl); (focus kernel_rfl))
           | ((with_reducible apply DrawI.at 147 idl40_28); (focus exact rfl); (focus kernel_rfl))
           | with_reducible apply ExE.go
           | ((with_reducible apply EqF.mk); (focus exact rfl))
           | with_reducible apply AndI.mk
           | with_reducible exact trivial
           | ((try ((with_reducible first | apply NumE.go | apply IdxE.go | apply TextE.go | apply LookE.go | apply CallE.go); (conv => whnf))); (with_reducible apply SideD.mk); (focus ((first | (intro hc; have hc0 := hc; (try simp only [SPLT] at hc); (try refine And.intro (by first | exact hc0 | exact ⟨hc0, hc0⟩ | exact ⟨hc0, hc0, hc0⟩) ?_)) | skip); first | (exact idx_row (l := [.mk k9 ks9 p9 vs9 lo9 hi9]) (j := 0) rfl rfl) | (exact show 0 ≤ _ ∧ _ = some [D.int .i64 0, D.sl 0 6 [], D.str [], D.sl 0 1 [], D.int .i64 0, D.int .i64 0] from absurd (by simpa using hc0) hk3) | ((try apply givesl); (focus (((first | apply gives_go (isAtom4_sem _ _ _ _ _ _) | apply gives_go (number_sem _ _) | apply gives_go (r4NotX_sem _ _ _ _ _ _) | apply gives_go (atoms4Nil_sem _ _) | apply gives_go (r4AnyX_sem _)); (focus (exact DLes.au)); (focus exact rfl); (all_goals (exact pre))))); (all_goals exact rfl)) | exact sideG)))
           | ((with_reducible apply CallO.go); (conv => whnf); (with_reducible apply SideD.mk); (focus (first | ((apply giveso_go (atoms4O_sem _ _ _)); (focus (first | exact rfl | (simp; done))); (focus (exact DLes.au)); (focus exact rfl); (all_goals (exact pre))))))
           | ((with_reducible first | apply DrawR.go0 | apply KerB.mk); (focus kernel_rfl))
           | (with_reducible first | apply ends_ret | apply ends_norm | apply Halt'.mk)
           | ((with_reducible apply CondD.mk) <;> intro hb <;> (try simp only [SPLT] at hb) <;> (try first | exact noB)))
         all_goals (try exact (false : Bool))
         repeat' ((conv => whnf); first | exact endR | (with_reducible first | apply And.intro | apply endsO_ret | apply endsO_norm | apply DLes.cons))
         all_goals (conv => whnf)
         (first | refine rle_agg ?_ | refine dle_agg ?_ | skip)
         repeat' (first | exact endF | exact endF2 | with_reducible apply DLes.cons | with_reducible apply dle_agg)
        ·rw [if_neg hl1] at hE
         repeat' (
          (conv => whnf)
          first
           | ((with_reducible apply DrawI.at 64 idl40_15); (focus exact rfl); (focus kernel_rfl))
           | ((with_reducible apply DrawI.at 82 idl40_16); (focus exact rfl); (focus kernel_rfl))
           | ((with_reducible apply DrawI.at 133 idl40_26); (focus exact rfl); (focus kernel_rfl))
           | ((with_reducible apply DrawI.at 147 idl40_28); (focus exact rfl); (focus kernel_rfl))
           | with_reducible apply ExE.go
           | ((with_reducible apply EqF.mk); (focus exact rfl))
           | with_reducible apply AndI.mk
           | with_reducible exact trivial
           | ((try ((with_reducible first | apply NumE.go | apply IdxE.go | apply TextE.go | apply LookE.go | apply CallE.go); (conv => whnf))); (with_reducible apply SideD.mk); (focus ((first | (intro hc; have hc0 := hc; (try simp only [SPLT] at hc); (try refine And.intro (by first | exact hc0 | exact ⟨hc0, hc0⟩ | exact ⟨hc0, hc0, hc0⟩) ?_)) | skip); first | (exact show 0 ≤ _ ∧ _ = some [D.int .i64 0, D.sl 0 6 [], D.str [], D.sl 0 1 [], D.int .i64 0, D.int .i64 0] from absurd (by simpa using hc0) hk3) | ((try apply givesl); (focus (((first | apply gives_go (isAtom4_sem _ _ _ _ _ _) | apply gives_go (number_sem _ _) | apply gives_go (r4NotX_sem _ _ _ _ _ _) | apply gives_go (atoms4Nil_sem _ _) | apply gives_go (r4AnyX_sem _)); (focus (exact DLes.au)); (focus exact rfl); (all_goals (exact pre))))); (all_goals exact rfl)) | exact sideG)))
           | ((with_reducible apply CallO.go); (conv => whnf); (with_reducible apply SideD.mk); (focus (first | ((apply giveso_go (atoms4O_sem _ _ _)); (focus (first | exact rfl | (simp; done))); (focus (exact DLes.au)); (focus exact rfl); (all_goals (exact pre))))))
           | ((with_reducible first | apply DrawR.go0 | apply KerB.mk); (focus kernel_rfl))
           | (with_reducible first | apply ends_ret | apply ends_norm | apply Halt'.mk)
           | ((with_reducible apply CondD.mk) <;> intro hb <;> (try simp only [SPLT] at hb) <;> (try first | exact noB)))
         all_goals (try exact (false : Bool))
         refine loop_go (M := fun t => mem t [2, 3, 4000003, 5, 9, 10, 5000015, 5000016, 5000026, 5000028, 1000048, 1000051, 1000063]) hT hM (fun i2 : Nat => [(8, .int .i64 i2), (3, .obj [.int .i64 k, .sl 1 6 (acc.map Cond.row), .str p, .sl 0 1 (vs.map fun s => [.str s]), .int .i64 lo, .int .i64 hi])]) (fun i2 => i2 ≤ acc.length ∧ ((acc.take i2).any fun c => hasC acc (notC c)) = false) (fun i2 => acc.length - i2) (0) ?_ ?_ ?_
         ·(conv => whnf)
          refine ⟨?_, by rfl⟩
          repeat' ((conv => whnf); first | exact endF | exact endF2 | with_reducible apply DLes.cons)
         ·exact ⟨Nat.zero_le _, rfl⟩
         ·rintro i2 ⟨hi2, hany⟩
          cases hy : acc[i2]? with
          | none =>
           have hm' := List.getElem?_eq_none_iff.1 hy
           rw [List.take_of_length_le hm'] at hany
           rw [show contraC acc = false from hany, if_pos rfl] at hE
           cases hE
           repeat' (
            (conv => whnf)
            first
             | ((with_reducible apply DrawI.at 64 idl40_15); (focus exact rfl); (focus kernel_rfl))
             | ((with_reducible apply DrawI.at 82 idl40_16); (focus exact rfl); (focus kernel_rfl))
             | ((with_reducible apply DrawI.at 133 idl40_26); (focus exact rfl); (focus kernel_rfl))
             | ((with_reducible apply DrawI.at 147 idl40_28); (focus exact rfl); (focus kernel_rfl))
             | with_reducible apply ExE.go
             | ((with_reducible apply EqF.mk); (focus exact rfl))
             | with_reducible apply AndI.mk
             | with_reducible exact trivial
             | ((try ((with_reducible first | apply NumE.go | apply IdxE.go | apply TextE.go | apply LookE.go | apply CallE.go); (conv => whnf))); (with_reducible apply SideD.mk); (focus ((first | (intro hc; have hc0 := hc; (try simp only [SPLT] at hc); (try refine And.intro (by first | exact hc0 | exact ⟨hc0, hc0⟩ | exact ⟨hc0, hc0, hc0⟩) ?_)) | skip); first | ((try apply givesl); (focus (((first | apply gives_go (isAtom4_sem _ _ _ _ _ _) | apply gives_go (number_sem _ _) | apply gives_go (r4NotX_sem _ _ _ _ _ _) | apply gives_go (atoms4Nil_sem _ _) | apply gives_go (r4AnyX_sem _)); (focus (exact DLes.au)); (focus exact rfl); (all_goals (exact pre))))); (all_goals exact rfl)) | exact sideG)))
             | ((with_reducible apply CallO.go); (conv => whnf); (with_reducible apply SideD.mk); (focus (first | ((apply giveso_go (atoms4O_sem _ _ _)); (focus (first | exact rfl | (simp; done))); (focus (exact DLes.au)); (focus exact rfl); (all_goals (exact pre))))))
             | ((with_reducible first | apply DrawR.go0 | apply KerB.mk); (focus kernel_rfl))
             | (with_reducible first | apply ends_ret | apply ends_norm | apply Halt'.mk)
             | ((with_reducible apply CondD.mk) <;> intro hb <;> (try simp only [SPLT] at hb) <;> (try first | exact noB)))
           all_goals (try exact (false : Bool))
           repeat' ((conv => whnf); first | exact endR | (with_reducible first | apply And.intro | apply endsO_ret | apply endsO_norm | apply DLes.cons))
           all_goals (conv => whnf)
           (first | refine rle_agg ?_ | refine dle_agg ?_ | skip)
           repeat' (first | exact endF | exact endF2 | with_reducible apply DLes.cons | with_reducible apply dle_agg)
          | some y =>
           have hltj := (List.getElem?_eq_some_iff.1 hy).1
           have hh := number_sem acc (notC y)
           have hnum := numC_has acc (notC y)
           have hc1 : hasC acc (notC y) = true → contraC acc = true := contra_at hy
           have hc2 : hasC acc (notC y) = false → ((acc.take (i2 + 1)).any fun c => hasC acc (notC c)) = false := fun h => by
            rw [take_at hy, List.any_append, hany]
            simp [h]
           generalize hasC acc (notC y) = b at hnum hc1 hc2
           generalize numC acc (notC y) = nn at hh hnum
           obtain ⟨k2, ks2, p2, vs2, lo2, hi2'⟩ := y
           rw [notC, Cond.row_mk, List.map_cons, List.map_nil, List.map_nil, Cond.row_mk] at hh
           obtain ⟨a, ha⟩ : ∃ a, A[0]? = some a := ⟨A[0]'(List.length_pos_iff.2 a2), by simp⟩
           have hah : A.headD noneC = a := headD_of4 ha
           obtain ⟨k4, ks4, p4, vs4, lo4, hi4⟩ := a
           repeat' (
            (conv => whnf)
            first
             | ((with_reducible apply DrawI.at 64 idl40_15); (focus exact rfl); (focus kernel_rfl))
             | ((with_reducible apply DrawI.at 82 idl40_16); (focus exact rfl); (focus kernel_rfl))
             | ((with_reducible apply DrawI.at 133 idl40_26); (focus exact rfl); (focus kernel_rfl))
             | ((with_reducible apply DrawI.at 147 idl40_28); (focus exact rfl); (focus kernel_rfl))
             | with_reducible apply ExE.go
             | ((with_reducible apply EqF.mk); (focus exact rfl))
             | with_reducible apply AndI.mk
             | with_reducible exact trivial
             | ((try ((with_reducible first | apply NumE.go | apply IdxE.go | apply TextE.go | apply LookE.go | apply CallE.go); (conv => whnf))); (with_reducible apply SideD.mk); (focus ((first | (intro hc; have hc0 := hc; (try simp only [SPLT] at hc); (try refine And.intro (by first | exact hc0 | exact ⟨hc0, hc0⟩ | exact ⟨hc0, hc0, hc0⟩) ?_)) | skip); first | (exact idx_row hy rfl) | (exact idx_row ha rfl) | ((try apply givesl); (focus (first | ((apply gives_go (hh)); (focus (exact DLes.au)); (focus exact rfl); (all_goals (exact pre))) | ((apply gives_go (a1)); (focus (exact DLes.au)); (focus exact rfl); (all_goals (exact pre))) | ((first | apply gives_go (r4NotX_sem _ _ _ _ _ _) | apply gives_go (isAtom4_sem _ _ _ _ _ _) | apply gives_go (number_sem _ _) | apply gives_go (atoms4Nil_sem _ _) | apply gives_go (r4AnyX_sem _)); (focus (exact DLes.au)); (focus exact rfl); (all_goals (exact pre))))); (all_goals exact rfl)) | exact sideG)))
             | ((with_reducible apply CallO.go); (conv => whnf); (with_reducible apply SideD.mk); (focus (first | ((apply giveso_go (atoms4O_sem _ _ _)); (focus (first | exact rfl | (simp; done))); (focus (exact DLes.au)); (focus exact rfl); (all_goals (exact pre))))))
             | ((with_reducible first | apply DrawR.go0 | apply KerB.mk); (focus kernel_rfl))
             | (with_reducible first | apply ends_ret | apply ends_norm | apply Halt'.mk)
             | ((with_reducible apply CondD.mk) <;> intro hb <;> (try simp only [SPLT] at hb) <;> (try first | exact noB)))
           all_goals (try exact (false : Bool))
           ·repeat' ((conv => whnf); first | exact endR | (with_reducible first | apply And.intro | apply endsO_ret | apply endsO_norm | apply DLes.cons))
            all_goals (conv => whnf)
            rw [show contraC acc = true from hc1 (by rw [← hnum]; simp; omega), if_neg (by simp), hah] at hE
            have e : ∀ c, Cond.mk k9 ks9 p9 vs9 lo9 hi9 = c → c.row = [.int .i64 k9, .sl 0 6 (ks9.map Cond.row), .str p9, .sl 0 1 (vs9.map fun s => [.str s]), .int .i64 lo9, .int .i64 hi9] := fun c h => by rw [← h, Cond.row_mk]
            rw [← e _ hE, if_pos (by omega)]
            simp only [anyC, notC, Cond.row_mk, List.map_cons, List.map_nil]
            exact rle_refl
           ·repeat' ((conv => whnf); first | exact endR | (with_reducible first | apply And.intro | apply endsO_ret | apply endsO_norm | apply DLes.cons))
            all_goals (conv => whnf)
            rw [show contraC acc = true from hc1 (by rw [← hnum]; simp; omega), if_neg (by simp), hah] at hE
            have e : ∀ c, Cond.mk k9 ks9 p9 vs9 lo9 hi9 = c → c.row = [.int .i64 k9, .sl 0 6 (ks9.map Cond.row), .str p9, .sl 0 1 (vs9.map fun s => [.str s]), .int .i64 lo9, .int .i64 hi9] := fun c h => by rw [← h, Cond.row_mk]
            rw [← e _ hE, if_neg (by omega)]
            simp only [anyC, notC, Cond.row_mk, List.map_cons, List.map_nil]
            exact rle_refl
           ·refine ⟨i2 + 1, ⟨by omega, hc2 (by rw [← hnum]; simp; omega)⟩, by omega, ?_⟩
            (conv => whnf)
            refine ⟨?_, by rfl⟩
            repeat' ((conv => whnf); first | exact endF | exact endF2 | with_reducible apply DLes.cons)
       ·rw [if_neg hk12] at hE
        rw [flatR_app hk12, List.nil_append] at hF
        rw [hF] at hE
        have hE0 := hF
        cases hE
        repeat' (
         (conv => whnf)
         first
          | ((with_reducible apply DrawI.at 64 idl40_15); (focus exact rfl); (focus kernel_rfl))
          | ((with_reducible apply DrawI.at 82 idl40_16); (focus exact rfl); (focus kernel_rfl))
          | ((with_reducible apply DrawI.at 133 idl40_26); (focus exact rfl); (focus kernel_rfl))
          | ((with_reducible apply DrawI.at 147 idl40_28); (focus exact rfl); (focus kernel_rfl))
          | with_reducible apply ExE.go
          | ((with_reducible apply EqF.mk); (focus exact rfl))
          | with_reducible apply AndI.mk
          | with_reducible exact trivial
          | ((try ((with_reducible first | apply NumE.go | apply IdxE.go | apply TextE.go | apply LookE.go | apply CallE.go); (conv => whnf))); (with_reducible apply SideD.mk); (focus ((first | (intro hc; have hc0 := hc; (try simp only [SPLT] at hc); (try refine And.intro (by first | exact hc0 | exact ⟨hc0, hc0⟩ | exact ⟨hc0, hc0, hc0⟩) ?_)) | skip); first | (exact show 0 ≤ _ ∧ _ = some [D.int .i64 0, D.sl 0 6 [], D.str [], D.sl 0 1 [], D.int .i64 0, D.int .i64 0] from absurd (by simpa using hc0) hk3) | ((try apply givesl); (focus (((first | apply gives_go (isAtom4_sem _ _ _ _ _ _) | apply gives_go (number_sem _ _) | apply gives_go (r4NotX_sem _ _ _ _ _ _) | apply gives_go (atoms4Nil_sem _ _) | apply gives_go (r4AnyX_sem _)); (focus (exact DLes.au)); (focus exact rfl); (all_goals (exact pre))))); (all_goals exact rfl)) | exact sideG)))
          | ((with_reducible apply CallO.go); (conv => whnf); (with_reducible apply SideD.mk); (focus (first | ((apply giveso_go (atoms4O_sem _ _ _)); (focus (first | exact rfl | (simp; done))); (focus (exact DLes.au)); (focus exact rfl); (all_goals (exact pre))))))
          | ((with_reducible first | apply DrawR.go0 | apply KerB.mk); (focus kernel_rfl))
          | (with_reducible first | apply ends_ret | apply ends_norm | apply Halt'.mk)
          | ((with_reducible apply CondD.mk) <;> intro hb <;> (try simp only [SPLT] at hb) <;> (try first | exact noB)))
        all_goals (try exact (false : Bool))
        repeat' ((conv => whnf); first | exact endR | (with_reducible first | apply And.intro | apply endsO_ret | apply endsO_norm | apply DLes.cons))
        all_goals (conv => whnf)
        (first | refine rle_agg ?_ | refine dle_agg ?_ | skip)
        repeat' (first | exact endF | exact endF2 | with_reducible apply DLes.cons | with_reducible apply dle_agg)
     ·by_cases hk3 : k = 3
      ·subst hk3
       rw [flatR_app (by omega), List.nil_append] at hF
       obtain rfl : ks.map Cond.short = acc := hF
       obtain ⟨y, hy⟩ : ∃ y, (ks.map Cond.short)[0]? = some y := by
        have hne := hk (by omega)
        clear ih hN h4 b4 hshN b1 b2 hk hll
        cases ks with
        | nil => exact absurd rfl hne
        | cons a t => exact ⟨_, rfl⟩
       have hyh : (ks.map Cond.short).headD noneC = y := headD_of4 hy
       have hyk : y.kind = 3 → y.kids ≠ [] := fun e => by
        have hm := List.mem_of_getElem? hy
        obtain ⟨x, hx, rfl⟩ := List.mem_map.1 hm
        exact (nice_kids (hshN x hx)).2.2 (by omega)
       rw [hyh] at hE
       generalize ks.map Cond.short = ss at hy hE
       obtain ⟨k1, ks1, p1, vs1, lo1, hi1⟩ := y
       by_cases hk1 : k1 = 3
       ·subst hk1
        rw [if_pos ⟨rfl, rfl⟩] at hE
        obtain ⟨z, hz⟩ : ∃ z, ks1[0]? = some z := by
         have hz0 : ks1 ≠ [] := hyk rfl
         cases ks1 with
         | nil => exact absurd rfl hz0
         | cons z t => exact ⟨z, rfl⟩
        have hzh : ks1.headD noneC = z := headD_of4 hz
        replace hE : _ = ks1.headD noneC := hE
        rw [hzh] at hE
        subst hE
        repeat' (
         (conv => whnf)
         first
          | ((with_reducible apply DrawI.at 64 idl40_15); (focus exact rfl); (focus kernel_rfl))
          | ((with_reducible apply DrawI.at 82 idl40_16); (focus exact rfl); (focus kernel_rfl))
          | ((with_reducible apply DrawI.at 133 idl40_26); (focus exact rfl); (focus kernel_rfl))
          | ((with_reducible apply DrawI.at 147 idl40_28); (focus exact rfl); (focus kernel_rfl))
          | with_reducible apply ExE.go
          | ((with_reducible apply EqF.mk); (focus exact rfl))
          | with_reducible apply AndI.mk
          | with_reducible exact trivial
          | ((try ((with_reducible first | apply NumE.go | apply IdxE.go | apply TextE.go | apply LookE.go | apply CallE.go); (conv => whnf))); (with_reducible apply SideD.mk); (focus ((first | (intro hc; have hc0 := hc; (try simp only [SPLT] at hc); (try refine And.intro (by first | exact hc0 | exact ⟨hc0, hc0⟩ | exact ⟨hc0, hc0, hc0⟩) ?_)) | skip); first | (exact idx_row hy rfl) | (exact idx_row hz rfl) | ((try apply givesl); (focus (((first | apply gives_go (isAtom4_sem _ _ _ _ _ _) | apply gives_go (number_sem _ _) | apply gives_go (r4NotX_sem _ _ _ _ _ _) | apply gives_go (atoms4Nil_sem _ _) | apply gives_go (r4AnyX_sem _)); (focus (exact DLes.au)); (focus exact rfl); (all_goals (exact pre))))); (all_goals exact rfl)) | exact sideG)))
          | ((with_reducible apply CallO.go); (conv => whnf); (with_reducible apply SideD.mk); (focus (first | ((apply giveso_go (atoms4O_sem _ _ _)); (focus (first | exact rfl | (simp; done))); (focus (exact DLes.au)); (focus exact rfl); (all_goals (exact pre))))))
          | ((with_reducible first | apply DrawR.go0 | apply KerB.mk); (focus kernel_rfl))
          | (with_reducible first | apply ends_ret | apply ends_norm | apply Halt'.mk)
          | ((with_reducible apply CondD.mk) <;> intro hb <;> (try simp only [SPLT] at hb) <;> (try first | exact noB)))
        all_goals (try exact (false : Bool))
        repeat' ((conv => whnf); first | exact endR | (with_reducible first | apply And.intro | apply endsO_ret | apply endsO_norm | apply DLes.cons))
        all_goals (conv => whnf)
        (first | refine rle_agg ?_ | refine dle_agg ?_ | skip)
        repeat' (first | exact endF | exact endF2 | with_reducible apply DLes.cons | with_reducible apply dle_agg)
       ·rw [if_neg (fun h => hk1 h.2), if_neg (by omega)] at hE
        cases hE
        repeat' (
         (conv => whnf)
         first
          | ((with_reducible apply DrawI.at 64 idl40_15); (focus exact rfl); (focus kernel_rfl))
          | ((with_reducible apply DrawI.at 82 idl40_16); (focus exact rfl); (focus kernel_rfl))
          | ((with_reducible apply DrawI.at 133 idl40_26); (focus exact rfl); (focus kernel_rfl))
          | ((with_reducible apply DrawI.at 147 idl40_28); (focus exact rfl); (focus kernel_rfl))
          | with_reducible apply ExE.go
          | ((with_reducible apply EqF.mk); (focus exact rfl))
          | with_reducible apply AndI.mk
          | with_reducible exact trivial
          | ((try ((with_reducible first | apply NumE.go | apply IdxE.go | apply TextE.go | apply LookE.go | apply CallE.go); (conv => whnf))); (with_reducible apply SideD.mk); (focus ((first | (intro hc; have hc0 := hc; (try simp only [SPLT] at hc); (try refine And.intro (by first | exact hc0 | exact ⟨hc0, hc0⟩ | exact ⟨hc0, hc0, hc0⟩) ?_)) | skip); first | (exact idx_row hy rfl) | ((try apply givesl); (focus (((first | apply gives_go (isAtom4_sem _ _ _ _ _ _) | apply gives_go (number_sem _ _) | apply gives_go (r4NotX_sem _ _ _ _ _ _) | apply gives_go (atoms4Nil_sem _ _) | apply gives_go (r4AnyX_sem _)); (focus (exact DLes.au)); (focus exact rfl); (all_goals (exact pre))))); (all_goals exact rfl)) | exact sideG)))
          | ((with_reducible apply CallO.go); (conv => whnf); (with_reducible apply SideD.mk); (focus (first | ((apply giveso_go (atoms4O_sem _ _ _)); (focus (first | exact rfl | (simp; done))); (focus (exact DLes.au)); (focus exact rfl); (all_goals (exact pre))))))
          | ((with_reducible first | apply DrawR.go0 | apply KerB.mk); (focus kernel_rfl))
          | (with_reducible first | apply ends_ret | apply ends_norm | apply Halt'.mk)
          | ((with_reducible apply CondD.mk) <;> intro hb <;> (try simp only [SPLT] at hb) <;> (try first | exact noB)))
        all_goals (try exact (false : Bool))
        repeat' ((conv => whnf); first | exact endR | (with_reducible first | apply And.intro | apply endsO_ret | apply endsO_norm | apply DLes.cons))
        all_goals (conv => whnf)
        (first | refine rle_agg ?_ | refine dle_agg ?_ | skip)
        repeat' (first | exact endF | exact endF2 | with_reducible apply DLes.cons | with_reducible apply dle_agg)
      ·rw [if_neg (fun h => hk3 h.1)] at hE
       by_cases hk12 : k = 1 ∨ k = 2
       ·rw [if_pos hk12] at hE
        rw [flatR_eq hk12] at hF
        have hne : ks ≠ [] := hk (by omega)
        obtain ⟨f1, f2, f3, f4⟩ := flat_ok hk12 (n := Cond.sizes ks + 1) ks hshN (by omega) [] (by simp)
        have f4 := f4 hne
        have g1 := flat_acnt hk12 (ks.map Cond.short) []
        have g2 := map_acnt ks fun x hx => short_acnt x 200 (h4 x hx)
        have g3 := acnts_sizes4 ks fun x _ => acnt_size4 x
        rw [acnts_nil] at g1
        rw [size_mk] at hA
        rw [severalC, severalE] at hE
        rw [hF] at f1 f2 f4 g1 hE
        have hlen : acc.length ≤ 1000 := by simp at f2; omega
        have a1 := atoms4Nil_sem (.mk k acc p vs lo hi) (by rw [acnt_mk, if_neg (by rcases hk12 with rfl | rfl <;> decide)]; omega)
        have a2 := ats_ne (n := Cond.sizes ks + 1) (.mk k acc p vs lo hi) (.mk (by simp at f2; omega) h2 hp hv0 (fun _ => f4) f1) []
        rw [Cond.row_mk] at a1
        generalize (Cond.mk k acc p vs lo hi).ats [] = A at a1 a2 hE
        by_cases hl1 : acc.length = 1
        ·rw [if_pos hl1] at hE
         obtain ⟨x, rfl⟩ : ∃ x, acc = [x] := by
          match acc, hl1 with
          | [x], _ => exact ⟨x, rfl⟩
         replace hE : _ = x := hE
         subst hE
         repeat' (
          (conv => whnf)
          first
           | ((with_reducible apply DrawI.at 64 idl40_15); (focus exact rfl); (focus kernel_rfl))
           | ((with_reducible apply DrawI.at 82 idl40_16); (focus exact rfl); (focus kernel_rfl))
           | ((with_reducible apply DrawI.at 133 idl40_26); (focus exact rfl); (focus kernel_rfl))
           | ((with_reducible apply DrawI.at 147 idl40_28); (focus exact rfl); (focus kernel_rfl))
           | with_reducible apply ExE.go
           | ((with_reducible apply EqF.mk); (focus exact rfl))
           | with_reducible apply AndI.mk
           | with_reducible exact trivial
           | ((try ((with_reducible first | apply NumE.go | apply IdxE.go | apply TextE.go | apply LookE.go | apply CallE.go); (conv => whnf))); (with_reducible apply SideD.mk); (focus ((first | (intro hc; have hc0 := hc; (try simp only [SPLT] at hc); (try refine And.intro (by first | exact hc0 | exact ⟨hc0, hc0⟩ | exact ⟨hc0, hc0, hc0⟩) ?_)) | skip); first | (exact idx_row (l := [.mk k9 ks9 p9 vs9 lo9 hi9]) (j := 0) rfl rfl) | (exact show 0 ≤ _ ∧ _ = some [D.int .i64 0, D.sl 0 6 [], D.str [], D.sl 0 1 [], D.int .i64 0, D.int .i64 0] from absurd (by simpa using hc0) hk3) | ((try apply givesl); (focus (((first | apply gives_go (isAtom4_sem _ _ _ _ _ _) | apply gives_go (number_sem _ _) | apply gives_go (r4NotX_sem _ _ _ _ _ _) | apply gives_go (atoms4Nil_sem _ _) | apply gives_go (r4AnyX_sem _)); (focus (exact DLes.au)); (focus exact rfl); (all_goals (exact pre))))); (all_goals exact rfl)) | exact sideG)))
           | ((with_reducible apply CallO.go); (conv => whnf); (with_reducible apply SideD.mk); (focus (first | ((apply giveso_go (atoms4O_sem _ _ _)); (focus (first | exact rfl | (simp; done))); (focus (exact DLes.au)); (focus exact rfl); (all_goals (exact pre))))))
           | ((with_reducible first | apply DrawR.go0 | apply KerB.mk); (focus kernel_rfl))
           | (with_reducible first | apply ends_ret | apply ends_norm | apply Halt'.mk)
           | ((with_reducible apply CondD.mk) <;> intro hb <;> (try simp only [SPLT] at hb) <;> (try first | exact noB)))
         all_goals (try exact (false : Bool))
         repeat' ((conv => whnf); first | exact endR | (with_reducible first | apply And.intro | apply endsO_ret | apply endsO_norm | apply DLes.cons))
         all_goals (conv => whnf)
         (first | refine rle_agg ?_ | refine dle_agg ?_ | skip)
         repeat' (first | exact endF | exact endF2 | with_reducible apply DLes.cons | with_reducible apply dle_agg)
        ·rw [if_neg hl1] at hE
         repeat' (
          (conv => whnf)
          first
           | ((with_reducible apply DrawI.at 64 idl40_15); (focus exact rfl); (focus kernel_rfl))
           | ((with_reducible apply DrawI.at 82 idl40_16); (focus exact rfl); (focus kernel_rfl))
           | ((with_reducible apply DrawI.at 133 idl40_26); (focus exact rfl); (focus kernel_rfl))
           | ((with_reducible apply DrawI.at 147 idl40_28); (focus exact rfl); (focus kernel_rfl))
           | with_reducible apply ExE.go
           | ((with_reducible apply EqF.mk); (focus exact rfl))
           | with_reducible apply AndI.mk
           | with_reducible exact trivial
           | ((try ((with_reducible first | apply NumE.go | apply IdxE.go | apply TextE.go | apply LookE.go | apply CallE.go); (conv => whnf))); (with_reducible apply SideD.mk); (focus ((first | (intro hc; have hc0 := hc; (try simp only [SPLT] at hc); (try refine And.intro (by first | exact hc0 | exact ⟨hc0, hc0⟩ | exact ⟨hc0, hc0, hc0⟩) ?_)) | skip); first | (exact show 0 ≤ _ ∧ _ = some [D.int .i64 0, D.sl 0 6 [], D.str [], D.sl 0 1 [], D.int .i64 0, D.int .i64 0] from absurd (by simpa using hc0) hk3) | ((try apply givesl); (focus (((first | apply gives_go (isAtom4_sem _ _ _ _ _ _) | apply gives_go (number_sem _ _) | apply gives_go (r4NotX_sem _ _ _ _ _ _) | apply gives_go (atoms4Nil_sem _ _) | apply gives_go (r4AnyX_sem _)); (focus (exact DLes.au)); (focus exact rfl); (all_goals (exact pre))))); (all_goals exact rfl)) | exact sideG)))
           | ((with_reducible apply CallO.go); (conv => whnf); (with_reducible apply SideD.mk); (focus (first | ((apply giveso_go (atoms4O_sem _ _ _)); (focus (first | exact rfl | (simp; done))); (focus (exact DLes.au)); (focus exact rfl); (all_goals (exact pre))))))
           | ((with_reducible first | apply DrawR.go0 | apply KerB.mk); (focus kernel_rfl))
           | (with_reducible first | apply ends_ret | apply ends_norm | apply Halt'.mk)
           | ((with_reducible apply CondD.mk) <;> intro hb <;> (try simp only [SPLT] at hb) <;> (try first | exact noB)))
         all_goals (try exact (false : Bool))
         refine loop_go (M := fun t => mem t [2, 3, 4000003, 5, 9, 10, 5000015, 5000016, 5000026, 5000028, 1000048, 1000051, 1000063]) hT hM (fun i2 : Nat => [(8, .int .i64 i2), (3, .obj [.int .i64 k, .sl 1 6 (acc.map Cond.row), .str p, .sl 0 1 (vs.map fun s => [.str s]), .int .i64 lo, .int .i64 hi])]) (fun i2 => i2 ≤ acc.length ∧ ((acc.take i2).any fun c => hasC acc (notC c)) = false) (fun i2 => acc.length - i2) (0) ?_ ?_ ?_
         ·(conv => whnf)
          refine ⟨?_, by rfl⟩
          repeat' ((conv => whnf); first | exact endF | exact endF2 | with_reducible apply DLes.cons)
         ·exact ⟨Nat.zero_le _, rfl⟩
         ·rintro i2 ⟨hi2, hany⟩
          cases hy : acc[i2]? with
          | none =>
           have hm' := List.getElem?_eq_none_iff.1 hy
           rw [List.take_of_length_le hm'] at hany
           rw [show contraC acc = false from hany, if_pos rfl] at hE
           cases hE
           repeat' (
            (conv => whnf)
            first
             | ((with_reducible apply DrawI.at 64 idl40_15); (focus exact rfl); (focus kernel_rfl))
             | ((with_reducible apply DrawI.at 82 idl40_16); (focus exact rfl); (focus kernel_rfl))
             | ((with_reducible apply DrawI.at 133 idl40_26); (focus exact rfl); (focus kernel_rfl))
             | ((with_reducible apply DrawI.at 147 idl40_28); (focus exact rfl); (focus kernel_rfl))
             | with_reducible apply ExE.go
             | ((with_reducible apply EqF.mk); (focus exact rfl))
             | with_reducible apply AndI.mk
             | with_reducible exact trivial
             | ((try ((with_reducible first | apply NumE.go | apply IdxE.go | apply TextE.go | apply LookE.go | apply CallE.go); (conv => whnf))); (with_reducible apply SideD.mk); (focus ((first | (intro hc; have hc0 := hc; (try simp only [SPLT] at hc); (try refine And.intro (by first | exact hc0 | exact ⟨hc0, hc0⟩ | exact ⟨hc0, hc0, hc0⟩) ?_)) | skip); first | ((try apply givesl); (focus (((first | apply gives_go (isAtom4_sem _ _ _ _ _ _) | apply gives_go (number_sem _ _) | apply gives_go (r4NotX_sem _ _ _ _ _ _) | apply gives_go (atoms4Nil_sem _ _) | apply gives_go (r4AnyX_sem _)); (focus (exact DLes.au)); (focus exact rfl); (all_goals (exact pre))))); (all_goals exact rfl)) | exact sideG)))
             | ((with_reducible apply CallO.go); (conv => whnf); (with_reducible apply SideD.mk); (focus (first | ((apply giveso_go (atoms4O_sem _ _ _)); (focus (first | exact rfl | (simp; done))); (focus (exact DLes.au)); (focus exact rfl); (all_goals (exact pre))))))
             | ((with_reducible first | apply DrawR.go0 | apply KerB.mk); (focus kernel_rfl))
             | (with_reducible first | apply ends_ret | apply ends_norm | apply Halt'.mk)
             | ((with_reducible apply CondD.mk) <;> intro hb <;> (try simp only [SPLT] at hb) <;> (try first | exact noB)))
           all_goals (try exact (false : Bool))
           repeat' ((conv => whnf); first | exact endR | (with_reducible first | apply And.intro | apply endsO_ret | apply endsO_norm | apply DLes.cons))
           all_goals (conv => whnf)
           (first | refine rle_agg ?_ | refine dle_agg ?_ | skip)
           repeat' (first | exact endF | exact endF2 | with_reducible apply DLes.cons | with_reducible apply dle_agg)
          | some y =>
           have hltj := (List.getElem?_eq_some_iff.1 hy).1
           have hh := number_sem acc (notC y)
           have hnum := numC_has acc (notC y)
           have hc1 : hasC acc (notC y) = true → contraC acc = true := contra_at hy
           have hc2 : hasC acc (notC y) = false → ((acc.take (i2 + 1)).any fun c => hasC acc (notC c)) = false := fun h => by
            rw [take_at hy, List.any_append, hany]
            simp [h]
           generalize hasC acc (notC y) = b at hnum hc1 hc2
           generalize numC acc (notC y) = nn at hh hnum
           obtain ⟨k2, ks2, p2, vs2, lo2, hi2'⟩ := y
           rw [notC, Cond.row_mk, List.map_cons, List.map_nil, List.map_nil, Cond.row_mk] at hh
           obtain ⟨a, ha⟩ : ∃ a, A[0]? = some a := ⟨A[0]'(List.length_pos_iff.2 a2), by simp⟩
           have hah : A.headD noneC = a := headD_of4 ha
           obtain ⟨k4, ks4, p4, vs4, lo4, hi4⟩ := a
           repeat' (
            (conv => whnf)
            first
             | ((with_reducible apply DrawI.at 64 idl40_15); (focus exact rfl); (focus kernel_rfl))
             | ((with_reducible apply DrawI.at 82 idl40_16); (focus exact rfl); (focus kernel_rfl))
             | ((with_reducible apply DrawI.at 133 idl40_26); (focus exact rfl); (focus kernel_rfl))
             | ((with_reducible apply DrawI.at 147 idl40_28); (focus exact rfl); (focus kernel_rfl))
             | with_reducible apply ExE.go
             | ((with_reducible apply EqF.mk); (focus exact rfl))
             | with_reducible apply AndI.mk
             | with_reducible exact trivial
             | ((try ((with_reducible first | apply NumE.go | apply IdxE.go | apply TextE.go | apply LookE.go | apply CallE.go); (conv => whnf))); (with_reducible apply SideD.mk); (focus ((first | (intro hc; have hc0 := hc; (try simp only [SPLT] at hc); (try refine And.intro (by first | exact hc0 | exact ⟨hc0, hc0⟩ | exact ⟨hc0, hc0, hc0⟩) ?_)) | skip); first | (exact idx_row hy rfl) | (exact idx_row ha rfl) | ((try apply givesl); (focus (first | ((apply gives_go (hh)); (focus (exact DLes.au)); (focus exact rfl); (all_goals (exact pre))) | ((apply gives_go (a1)); (focus (exact DLes.au)); (focus exact rfl); (all_goals (exact pre))) | ((first | apply gives_go (r4NotX_sem _ _ _ _ _ _) | apply gives_go (isAtom4_sem _ _ _ _ _ _) | apply gives_go (number_sem _ _) | apply gives_go (atoms4Nil_sem _ _) | apply gives_go (r4AnyX_sem _)); (focus (exact DLes.au)); (focus exact rfl); (all_goals (exact pre))))); (all_goals exact rfl)) | exact sideG)))
             | ((with_reducible apply CallO.go); (conv => whnf); (with_reducible apply SideD.mk); (focus (first | ((apply giveso_go (atoms4O_sem _ _ _)); (focus (first | exact rfl | (simp; done))); (focus (exact DLes.au)); (focus exact rfl); (all_goals (exact pre))))))
             | ((with_reducible first | apply DrawR.go0 | apply KerB.mk); (focus kernel_rfl))
             | (with_reducible first | apply ends_ret | apply ends_norm | apply Halt'.mk)
             | ((with_reducible apply CondD.mk) <;> intro hb <;> (try simp only [SPLT] at hb) <;> (try first | exact noB)))
           all_goals (try exact (false : Bool))
           ·repeat' ((conv => whnf); first | exact endR | (with_reducible first | apply And.intro | apply endsO_ret | apply endsO_norm | apply DLes.cons))
            all_goals (conv => whnf)
            rw [show contraC acc = true from hc1 (by rw [← hnum]; simp; omega), if_neg (by simp), hah] at hE
            have e : ∀ c, Cond.mk k9 ks9 p9 vs9 lo9 hi9 = c → c.row = [.int .i64 k9, .sl 0 6 (ks9.map Cond.row), .str p9, .sl 0 1 (vs9.map fun s => [.str s]), .int .i64 lo9, .int .i64 hi9] := fun c h => by rw [← h, Cond.row_mk]
            rw [← e _ hE, if_pos (by omega)]
            simp only [anyC, notC, Cond.row_mk, List.map_cons, List.map_nil]
            exact rle_refl
           ·repeat' ((conv => whnf); first | exact endR | (with_reducible first | apply And.intro | apply endsO_ret | apply endsO_norm | apply DLes.cons))
            all_goals (conv => whnf)
            rw [show contraC acc = true from hc1 (by rw [← hnum]; simp; omega), if_neg (by simp), hah] at hE
            have e : ∀ c, Cond.mk k9 ks9 p9 vs9 lo9 hi9 = c → c.row = [.int .i64 k9, .sl 0 6 (ks9.map Cond.row), .str p9, .sl 0 1 (vs9.map fun s => [.str s]), .int .i64 lo9, .int .i64 hi9] := fun c h => by rw [← h, Cond.row_mk]
            rw [← e _ hE, if_neg (by omega)]
            simp only [anyC, notC, Cond.row_mk, List.map_cons, List.map_nil]
            exact rle_refl
           ·refine ⟨i2 + 1, ⟨by omega, hc2 (by rw [← hnum]; simp; omega)⟩, by omega, ?_⟩
            (conv => whnf)
            refine ⟨?_, by rfl⟩
            repeat' ((conv => whnf); first | exact endF | exact endF2 | with_reducible apply DLes.cons)
       ·rw [if_neg hk12] at hE
        rw [flatR_app hk12, List.nil_append] at hF
        rw [hF] at hE
        have hE0 := hF
        cases hE
        repeat' (
         (conv => whnf)
         first
          | ((with_reducible apply DrawI.at 64 idl40_15); (focus exact rfl); (focus kernel_rfl))
          | ((with_reducible apply DrawI.at 82 idl40_16); (focus exact rfl); (focus kernel_rfl))
          | ((with_reducible apply DrawI.at 133 idl40_26); (focus exact rfl); (focus kernel_rfl))
          | ((with_reducible apply DrawI.at 147 idl40_28); (focus exact rfl); (focus kernel_rfl))
          | with_reducible apply ExE.go
          | ((with_reducible apply EqF.mk); (focus exact rfl))
          | with_reducible apply AndI.mk
          | with_reducible exact trivial
          | ((try ((with_reducible first | apply NumE.go | apply IdxE.go | apply TextE.go | apply LookE.go | apply CallE.go); (conv => whnf))); (with_reducible apply SideD.mk); (focus ((first | (intro hc; have hc0 := hc; (try simp only [SPLT] at hc); (try refine And.intro (by first | exact hc0 | exact ⟨hc0, hc0⟩ | exact ⟨hc0, hc0, hc0⟩) ?_)) | skip); first | (exact show 0 ≤ _ ∧ _ = some [D.int .i64 0, D.sl 0 6 [], D.str [], D.sl 0 1 [], D.int .i64 0, D.int .i64 0] from absurd (by simpa using hc0) hk3) | ((try apply givesl); (focus (((first | apply gives_go (isAtom4_sem _ _ _ _ _ _) | apply gives_go (number_sem _ _) | apply gives_go (r4NotX_sem _ _ _ _ _ _) | apply gives_go (atoms4Nil_sem _ _) | apply gives_go (r4AnyX_sem _)); (focus (exact DLes.au)); (focus exact rfl); (all_goals (exact pre))))); (all_goals exact rfl)) | exact sideG)))
          | ((with_reducible apply CallO.go); (conv => whnf); (with_reducible apply SideD.mk); (focus (first | ((apply giveso_go (atoms4O_sem _ _ _)); (focus (first | exact rfl | (simp; done))); (focus (exact DLes.au)); (focus exact rfl); (all_goals (exact pre))))))
          | ((with_reducible first | apply DrawR.go0 | apply KerB.mk); (focus kernel_rfl))
          | (with_reducible first | apply ends_ret | apply ends_norm | apply Halt'.mk)
          | ((with_reducible apply CondD.mk) <;> intro hb <;> (try simp only [SPLT] at hb) <;> (try first | exact noB)))
        all_goals (try exact (false : Bool))
        repeat' ((conv => whnf); first | exact endR | (with_reducible first | apply And.intro | apply endsO_ret | apply endsO_norm | apply DLes.cons))
        all_goals (conv => whnf)
        (first | refine rle_agg ?_ | refine dle_agg ?_ | skip)
        repeat' (first | exact endF | exact endF2 | with_reducible apply DLes.cons | with_reducible apply dle_agg)
     ·omega
    | some x =>
     have hxm : x ∈ ks := List.mem_of_getElem? hx
     have hlt := (List.getElem?_eq_some_iff.1 hx).1
     have hxA : x.size ≤ 1000 := by have := mem_sizes hxm; rw [size_mk] at hA; omega
     have ih' := ih x hxm (h4 x hxm) (b4 x hxm) hxA
     have hxs : (ks.map Cond.short)[i]? = some x.short := by rw [List.getElem?_map, hx]; rfl
     rw [flatR_at hxs] at hv
     have hkl : x.short.kids.length ≤ 1000 := by have := (nice_kids (hshN x hxm)).1; omega
     generalize hG : (innerR k x.short).foldl (addR k) acc = G at hv
     generalize x.short = y at ih' hG hkl
     obtain ⟨k1, ks1, p1, vs1, lo1, hi1⟩ := x
     obtain ⟨k3, ks3, p3, vs3, lo3, hi3⟩ := y
     rw [Cond.row_mk, Cond.row_mk] at ih'
     have hl3 : (ks3.map Cond.row).length = ks3.length := List.length_map _
     have hkl : ks3.length ≤ 1000 := hkl
     have hones : ([Cond.mk k3 ks3 p3 vs3 lo3 hi3].map Cond.row) = [[D.int .i64 k3, D.sl 0 6 (ks3.map Cond.row), D.str p3, D.sl 0 1 (vs3.map fun s => [D.str s]), D.int .i64 lo3, D.int .i64 hi3]] := by rw [List.map_cons, List.map_nil, Cond.row_mk]
     repeat' (
      (conv => whnf)
      first
       | ((with_reducible apply DrawI.at 64 idl40_15); (focus exact rfl); (focus kernel_rfl))
       | ((with_reducible apply DrawI.at 82 idl40_16); (focus exact rfl); (focus kernel_rfl))
       | ((with_reducible apply DrawI.at 133 idl40_26); (focus exact rfl); (focus kernel_rfl))
       | ((with_reducible apply DrawI.at 147 idl40_28); (focus exact rfl); (focus kernel_rfl))
       | with_reducible apply ExE.go
       | ((with_reducible apply EqF.mk); (focus exact rfl))
       | with_reducible apply AndI.mk
       | with_reducible exact trivial
       | ((try ((with_reducible first | apply NumE.go | apply IdxE.go | apply TextE.go | apply LookE.go | apply CallE.go); (conv => whnf))); (with_reducible apply SideD.mk); (focus ((first | (intro hc; have hc0 := hc; (try simp only [SPLT] at hc); (try refine And.intro (by first | exact hc0 | exact ⟨hc0, hc0⟩ | exact ⟨hc0, hc0, hc0⟩) ?_)) | skip); first | (exact idx_row hx rfl) | ((try apply givesl); (focus (first | ((apply gives_go (ih')); (focus (exact DLes.au)); (focus exact rfl); (all_goals (exact pre))) | ((first | apply gives_go (isAtom4_sem _ _ _ _ _ _) | apply gives_go (number_sem _ _) | apply gives_go (r4NotX_sem _ _ _ _ _ _) | apply gives_go (atoms4Nil_sem _ _) | apply gives_go (r4AnyX_sem _)); (focus (exact DLes.au)); (focus exact rfl); (all_goals (exact pre))))); (all_goals exact rfl)) | exact sideG)))
       | ((with_reducible apply CallO.go); (conv => whnf); (with_reducible apply SideD.mk); (focus (first | ((apply giveso_go (atoms4O_sem _ _ _)); (focus (first | exact rfl | (simp; done))); (focus (exact DLes.au)); (focus exact rfl); (all_goals (exact pre))))))
       | ((with_reducible first | apply DrawR.go0 | apply KerB.mk); (focus kernel_rfl))
       | (with_reducible first | apply ends_ret | apply ends_norm | apply Halt'.mk)
       | ((with_reducible apply CondD.mk) <;> intro hb <;> (try simp only [SPLT] at hb) <;> (try first | exact noB)))
     all_goals (try exact (false : Bool))
     ·rw [innerR, if_pos (show Cond.kind (.mk k3 ks3 p3 vs3 lo3 hi3) = k ∧ (k = 1 ∨ k = 2) by first | exact ⟨hb.1, hb.2⟩ | (have g : k3 = k ∧ (k = 1 ∨ k = 2) := by omega; exact g) | (have g : k3 = k ∧ (k = 1 ∨ k = 2) := by simp_all; exact g))] at hG
      replace hG : ks3.foldl (addR k) acc = G := hG
      refine ht_frzC [6] ?_
      conv => whnf
      refine loop_go (M := fun t => mem t [2, 3, 4000003, 5, 9, 10, 5000015, 5000016, 5000026, 5000028, 1000048, 1000051, 1000063]) hT hM (fun y : Nat × List Cond × Nat => [(7, .int .i64 y.1), (3, .obj [.int .i64 k, cellO y.2.2 y.2.1, .str p, .sl 0 1 (vs.map fun s => [.str s]), .int .i64 lo, .int .i64 hi])]) (fun y => y.1 ≤ (ks3).length ∧ y.2.1.length ≤ i * 1000 + y.1 ∧ ((ks3).drop y.1).foldl (addR k) y.2.1 = G ∧ y.2.2 ≤ 2 ∧ (y.2.2 = 0 → y.2.1 = [])) (fun y => (ks3).length - y.1) ((0, acc, s)) ?_ ?_ ?_
      ·(conv => whnf)
       refine ⟨?_, by rfl⟩
       repeat' ((conv => whnf); first | exact endF | exact endF2 | with_reducible apply DLes.cons)
      ·exact ⟨Nat.zero_le _, by dsimp only; omega, hG, hs2, hs0⟩
      ·rintro ⟨j, acc1, s1⟩ ⟨hj, hm1, hv1, ht2, ht0⟩
       dsimp only at hj hm1 hv1 ht2 ht0 ⊢
       have hacl1 : (acc1.map Cond.row).length = acc1.length := List.length_map _
       cases hy : (ks3)[j]? with
       | none => as_aux_lemma =>
        have hm' := List.getElem?_eq_none_iff.1 hy
        rw [List.drop_of_length_le hm', List.foldl_nil] at hv1
        subst hv1
        (try simp only [List.length_cons, List.length_nil] at hm')
        rcases s1 with _ | _ | _ | s1
        ·repeat' (
          (conv => whnf)
          first
           | ((with_reducible apply DrawI.at 64 idl40_15); (focus exact rfl); (focus kernel_rfl))
           | ((with_reducible apply DrawI.at 82 idl40_16); (focus exact rfl); (focus kernel_rfl))
           | ((with_reducible apply DrawI.at 133 idl40_26); (focus exact rfl); (focus kernel_rfl))
           | ((with_reducible apply DrawI.at 147 idl40_28); (focus exact rfl); (focus kernel_rfl))
           | with_reducible apply ExE.go
           | ((with_reducible apply EqF.mk); (focus exact rfl))
           | with_reducible apply AndI.mk
           | with_reducible exact trivial
           | ((try ((with_reducible first | apply NumE.go | apply IdxE.go | apply TextE.go | apply LookE.go | apply CallE.go); (conv => whnf))); (with_reducible apply SideD.mk); (focus ((first | (intro hc; have hc0 := hc; (try simp only [SPLT] at hc); (try refine And.intro (by first | exact hc0 | exact ⟨hc0, hc0⟩ | exact ⟨hc0, hc0, hc0⟩) ?_)) | skip); first | ((try apply givesl); (focus (((first | apply gives_go (isAtom4_sem _ _ _ _ _ _) | apply gives_go (number_sem _ _) | apply gives_go (r4NotX_sem _ _ _ _ _ _) | apply gives_go (atoms4Nil_sem _ _) | apply gives_go (r4AnyX_sem _)); (focus (exact DLes.au)); (focus exact rfl); (all_goals (exact pre))))); (all_goals exact rfl)) | exact sideG)))
           | ((with_reducible apply CallO.go); (conv => whnf); (with_reducible apply SideD.mk); (focus (first | ((apply giveso_go (atoms4O_sem _ _ _)); (focus (first | exact rfl | (simp; done))); (focus (exact DLes.au)); (focus exact rfl); (all_goals (exact pre))))))
           | ((with_reducible first | apply DrawR.go0 | apply KerB.mk); (focus kernel_rfl))
           | (with_reducible first | apply ends_ret | apply ends_norm | apply Halt'.mk)
           | ((with_reducible apply CondD.mk) <;> intro hb <;> (try simp only [SPLT] at hb) <;> (try first | exact noB)))
         all_goals (try exact (false : Bool))
         refine ⟨(i + 1, acc1, 0), ⟨by dsimp only; omega, by dsimp only; omega, hv, ht2, ht0⟩, by dsimp only; omega, ?_⟩
         (conv => whnf)
         refine ⟨?_, by rfl⟩
         repeat' ((conv => whnf); first | exact endF | exact endF2 | with_reducible apply DLes.cons)
        ·repeat' (
          (conv => whnf)
          first
           | ((with_reducible apply DrawI.at 64 idl40_15); (focus exact rfl); (focus kernel_rfl))
           | ((with_reducible apply DrawI.at 82 idl40_16); (focus exact rfl); (focus kernel_rfl))
           | ((with_reducible apply DrawI.at 133 idl40_26); (focus exact rfl); (focus kernel_rfl))
           | ((with_reducible apply DrawI.at 147 idl40_28); (focus exact rfl); (focus kernel_rfl))
           | with_reducible apply ExE.go
           | ((with_reducible apply EqF.mk); (focus exact rfl))
           | with_reducible apply AndI.mk
           | with_reducible exact trivial
           | ((try ((with_reducible first | apply NumE.go | apply IdxE.go | apply TextE.go | apply LookE.go | apply CallE.go); (conv => whnf))); (with_reducible apply SideD.mk); (focus ((first | (intro hc; have hc0 := hc; (try simp only [SPLT] at hc); (try refine And.intro (by first | exact hc0 | exact ⟨hc0, hc0⟩ | exact ⟨hc0, hc0, hc0⟩) ?_)) | skip); first | ((try apply givesl); (focus (((first | apply gives_go (isAtom4_sem _ _ _ _ _ _) | apply gives_go (number_sem _ _) | apply gives_go (r4NotX_sem _ _ _ _ _ _) | apply gives_go (atoms4Nil_sem _ _) | apply gives_go (r4AnyX_sem _)); (focus (exact DLes.au)); (focus exact rfl); (all_goals (exact pre))))); (all_goals exact rfl)) | exact sideG)))
           | ((with_reducible apply CallO.go); (conv => whnf); (with_reducible apply SideD.mk); (focus (first | ((apply giveso_go (atoms4O_sem _ _ _)); (focus (first | exact rfl | (simp; done))); (focus (exact DLes.au)); (focus exact rfl); (all_goals (exact pre))))))
           | ((with_reducible first | apply DrawR.go0 | apply KerB.mk); (focus kernel_rfl))
           | (with_reducible first | apply ends_ret | apply ends_norm | apply Halt'.mk)
           | ((with_reducible apply CondD.mk) <;> intro hb <;> (try simp only [SPLT] at hb) <;> (try first | exact noB)))
         all_goals (try exact (false : Bool))
         refine ⟨(i + 1, acc1, 1), ⟨by dsimp only; omega, by dsimp only; omega, hv, ht2, ht0⟩, by dsimp only; omega, ?_⟩
         (conv => whnf)
         refine ⟨?_, by rfl⟩
         repeat' ((conv => whnf); first | exact endF | exact endF2 | with_reducible apply DLes.cons)
        ·repeat' (
          (conv => whnf)
          first
           | ((with_reducible apply DrawI.at 64 idl40_15); (focus exact rfl); (focus kernel_rfl))
           | ((with_reducible apply DrawI.at 82 idl40_16); (focus exact rfl); (focus kernel_rfl))
           | ((with_reducible apply DrawI.at 133 idl40_26); (focus exact rfl); (focus kernel_rfl))
           | ((with_reducible apply DrawI.at 147 idl40_28); (focus exact rfl); (focus kernel_rfl))
           | with_reducible apply ExE.go
           | ((with_reducible apply EqF.mk); (focus exact rfl))
           | with_reducible apply AndI.mk
           | with_reducible exact trivial
           | ((try ((with_reducible first | apply NumE.go | apply IdxE.go | apply TextE.go | apply LookE.go | apply CallE.go); (conv => whnf))); (with_reducible apply SideD.mk); (focus ((first | (intro hc; have hc0 := hc; (try simp only [SPLT] at hc); (try refine And.intro (by first | exact hc0 | exact ⟨hc0, hc0⟩ | exact ⟨hc0, hc0, hc0⟩) ?_)) | skip); first | ((try apply givesl); (focus (((first | apply gives_go (isAtom4_sem _ _ _ _ _ _) | apply gives_go (number_sem _ _) | apply gives_go (r4NotX_sem _ _ _ _ _ _) | apply gives_go (atoms4Nil_sem _ _) | apply gives_go (r4AnyX_sem _)); (focus (exact DLes.au)); (focus exact rfl); (all_goals (exact pre))))); (all_goals exact rfl)) | exact sideG)))
           | ((with_reducible apply CallO.go); (conv => whnf); (with_reducible apply SideD.mk); (focus (first | ((apply giveso_go (atoms4O_sem _ _ _)); (focus (first | exact rfl | (simp; done))); (focus (exact DLes.au)); (focus exact rfl); (all_goals (exact pre))))))
           | ((with_reducible first | apply DrawR.go0 | apply KerB.mk); (focus kernel_rfl))
           | (with_reducible first | apply ends_ret | apply ends_norm | apply Halt'.mk)
           | ((with_reducible apply CondD.mk) <;> intro hb <;> (try simp only [SPLT] at hb) <;> (try first | exact noB)))
         all_goals (try exact (false : Bool))
         refine ⟨(i + 1, acc1, 2), ⟨by dsimp only; omega, by dsimp only; omega, hv, ht2, ht0⟩, by dsimp only; omega, ?_⟩
         (conv => whnf)
         refine ⟨?_, by rfl⟩
         repeat' ((conv => whnf); first | exact endF | exact endF2 | with_reducible apply DLes.cons)
        ·omega
       | some y => as_aux_lemma =>
        have hltj := (List.getElem?_eq_some_iff.1 hy).1
        (try simp only [List.length_cons, List.length_nil] at hltj)
        rw [foldR_at hy] at hv1
        have hh := number_sem acc1 y
        have hnum := numC_has acc1 y
        have hadd : addR k acc1 y = if (k = 1 ∨ k = 2) ∧ hasC acc1 y = true then acc1 else acc1 ++ [y] := rfl
        generalize addR k acc1 y = acc2 at hv1 hadd
        generalize hasC acc1 y = b at hnum hadd
        generalize numC acc1 y = nn at hh hnum
        obtain ⟨k2, ks2, p2, vs2, lo2, hi2⟩ := y
        rw [Cond.row_mk] at hh
        rcases s1 with _ | _ | _ | s1
        ·obtain rfl := ht0 rfl
         have hh := hh.weak (args' := [.nil, .agg [.int .i64 k2, .sl 0 6 (ks2.map Cond.row), .str p2, .sl 0 1 (vs2.map fun s => [.str s]), .int .i64 lo2, .int .i64 hi2]]) (.cons (.nil _ _) (.cons (.refl _) .nil))
         repeat' (
          (conv => whnf)
          first
           | ((with_reducible apply DrawI.at 64 idl40_15); (focus exact rfl); (focus kernel_rfl))
           | ((with_reducible apply DrawI.at 82 idl40_16); (focus exact rfl); (focus kernel_rfl))
           | ((with_reducible apply DrawI.at 133 idl40_26); (focus exact rfl); (focus kernel_rfl))
           | ((with_reducible apply DrawI.at 147 idl40_28); (focus exact rfl); (focus kernel_rfl))
           | with_reducible apply ExE.go
           | ((with_reducible apply EqF.mk); (focus exact rfl))
           | with_reducible apply AndI.mk
           | with_reducible exact trivial
           | ((try ((with_reducible first | apply NumE.go | apply IdxE.go | apply TextE.go | apply LookE.go | apply CallE.go); (conv => whnf))); (with_reducible apply SideD.mk); (focus ((first | (intro hc; have hc0 := hc; (try simp only [SPLT] at hc); (try refine And.intro (by first | exact hc0 | exact ⟨hc0, hc0⟩ | exact ⟨hc0, hc0, hc0⟩) ?_)) | skip); first | (exact idx_row hy rfl) | ((rw [← hones]; exact idx_row hy rfl)) | ((try apply givesl); (focus (first | ((apply gives_go (hh)); (focus (exact DLes.au)); (focus exact rfl); (all_goals (exact pre))) | ((first | apply gives_go (isAtom4_sem _ _ _ _ _ _) | apply gives_go (number_sem _ _) | apply gives_go (r4NotX_sem _ _ _ _ _ _) | apply gives_go (atoms4Nil_sem _ _) | apply gives_go (r4AnyX_sem _)); (focus (exact DLes.au)); (focus exact rfl); (all_goals (exact pre))))); (all_goals exact rfl)) | exact sideG)))
           | ((with_reducible apply CallO.go); (conv => whnf); (with_reducible apply SideD.mk); (focus (first | ((apply giveso_go (atoms4O_sem _ _ _)); (focus (first | exact rfl | (simp; done))); (focus (exact DLes.au)); (focus exact rfl); (all_goals (exact pre))))))
           | ((with_reducible first | apply DrawR.go0 | apply KerB.mk); (focus kernel_rfl))
           | (with_reducible first | apply ends_ret | apply ends_norm | apply Halt'.mk)
           | ((with_reducible apply CondD.mk) <;> intro hb <;> (try simp only [SPLT] at hb) <;> (try first | exact noB)))
         all_goals (try exact (false : Bool))
         ·rw [if_neg (by rintro ⟨g1, g2⟩; rw [g2] at hnum; (try simp at hnum); (try simp at hb); omega)] at hadd
          subst hadd
          refine ⟨(j + 1, _, 2), ⟨by dsimp only; omega, by simp; omega, hv1, by simp, by simp⟩, by dsimp only; omega, ?_⟩
          (conv => whnf)
          refine ⟨?_, by rfl⟩
          repeat' ((conv => whnf); first | exact endF | (exact DLe.of_eq (congrArg (fun rs => D.obj [D.int .i64 k, D.sl 2 6 rs, D.str p, D.sl 0 1 (vs.map fun s => [D.str s]), D.int .i64 lo, D.int .i64 hi]) (by rw [List.map_append, List.map_cons, List.map_nil, Cond.row_mk]; rfl))) | exact endF2 | with_reducible apply DLes.cons)
         ·have hb0 : b = true := by rw [← hnum]; exact decide_eq_true (by (try simp at hb); omega)
          rw [if_pos ⟨by (try simp at hb); omega, hb0⟩] at hadd
          subst hadd
          refine ⟨(j + 1, _, 0), ⟨by dsimp only; omega, by dsimp only; omega, hv1, by simp, by simp⟩, by dsimp only; omega, ?_⟩
          (conv => whnf)
          refine ⟨?_, by rfl⟩
          repeat' ((conv => whnf); first | exact endF | exact endF2 | with_reducible apply DLes.cons)
        ·repeat' (
          (conv => whnf)
          first
           | ((with_reducible apply DrawI.at 64 idl40_15); (focus exact rfl); (focus kernel_rfl))
           | ((with_reducible apply DrawI.at 82 idl40_16); (focus exact rfl); (focus kernel_rfl))
           | ((with_reducible apply DrawI.at 133 idl40_26); (focus exact rfl); (focus kernel_rfl))
           | ((with_reducible apply DrawI.at 147 idl40_28); (focus exact rfl); (focus kernel_rfl))
           | with_reducible apply ExE.go
           | ((with_reducible apply EqF.mk); (focus exact rfl))
           | with_reducible apply AndI.mk
           | with_reducible exact trivial
           | ((try ((with_reducible first | apply NumE.go | apply IdxE.go | apply TextE.go | apply LookE.go | apply CallE.go); (conv => whnf))); (with_reducible apply SideD.mk); (focus ((first | (intro hc; have hc0 := hc; (try simp only [SPLT] at hc); (try refine And.intro (by first | exact hc0 | exact ⟨hc0, hc0⟩ | exact ⟨hc0, hc0, hc0⟩) ?_)) | skip); first | (exact idx_row hy rfl) | ((rw [← hones]; exact idx_row hy rfl)) | ((try apply givesl); (focus (first | ((apply gives_go (hh)); (focus (exact DLes.au)); (focus exact rfl); (all_goals (exact pre))) | ((first | apply gives_go (isAtom4_sem _ _ _ _ _ _) | apply gives_go (number_sem _ _) | apply gives_go (r4NotX_sem _ _ _ _ _ _) | apply gives_go (atoms4Nil_sem _ _) | apply gives_go (r4AnyX_sem _)); (focus (exact DLes.au)); (focus exact rfl); (all_goals (exact pre))))); (all_goals exact rfl)) | exact sideG)))
           | ((with_reducible apply CallO.go); (conv => whnf); (with_reducible apply SideD.mk); (focus (first | ((apply giveso_go (atoms4O_sem _ _ _)); (focus (first | exact rfl | (simp; done))); (focus (exact DLes.au)); (focus exact rfl); (all_goals (exact pre))))))
           | ((with_reducible first | apply DrawR.go0 | apply KerB.mk); (focus kernel_rfl))
           | (with_reducible first | apply ends_ret | apply ends_norm | apply Halt'.mk)
           | ((with_reducible apply CondD.mk) <;> intro hb <;> (try simp only [SPLT] at hb) <;> (try first | exact noB)))
         all_goals (try exact (false : Bool))
         ·rw [if_neg (by rintro ⟨g1, g2⟩; rw [g2] at hnum; (try simp at hnum); (try simp at hb); omega)] at hadd
          subst hadd
          refine ⟨(j + 1, _, 1), ⟨by dsimp only; omega, by simp; omega, hv1, by simp, by simp⟩, by dsimp only; omega, ?_⟩
          (conv => whnf)
          refine ⟨?_, by rfl⟩
          repeat' ((conv => whnf); first | exact endF | (exact DLe.of_eq (congrArg (fun rs => D.obj [D.int .i64 k, D.sl 1 6 rs, D.str p, D.sl 0 1 (vs.map fun s => [D.str s]), D.int .i64 lo, D.int .i64 hi]) (by rw [List.map_append, List.map_cons, List.map_nil, Cond.row_mk]))) | exact endF2 | with_reducible apply DLes.cons)
         ·have hb0 : b = true := by rw [← hnum]; exact decide_eq_true (by (try simp at hb); omega)
          rw [if_pos ⟨by (try simp at hb); omega, hb0⟩] at hadd
          subst hadd
          refine ⟨(j + 1, _, 1), ⟨by dsimp only; omega, by dsimp only; omega, hv1, by simp, by simp⟩, by dsimp only; omega, ?_⟩
          (conv => whnf)
          refine ⟨?_, by rfl⟩
          repeat' ((conv => whnf); first | exact endF | exact endF2 | with_reducible apply DLes.cons)
        ·repeat' (
          (conv => whnf)
          first
           | ((with_reducible apply DrawI.at 64 idl40_15); (focus exact rfl); (focus kernel_rfl))
           | ((with_reducible apply DrawI.at 82 idl40_16); (focus exact rfl); (focus kernel_rfl))
           | ((with_reducible apply DrawI.at 133 idl40_26); (focus exact rfl); (focus kernel_rfl))
           | ((with_reducible apply DrawI.at 147 idl40_28); (focus exact rfl); (focus kernel_rfl))
           | with_reducible apply ExE.go
           | ((with_reducible apply EqF.mk); (focus exact rfl))
           | with_reducible apply AndI.mk
           | with_reducible exact trivial
           | ((try ((with_reducible first | apply NumE.go | apply IdxE.go | apply TextE.go | apply LookE.go | apply CallE.go); (conv => whnf))); (with_reducible apply SideD.mk); (focus ((first | (intro hc; have hc0 := hc; (try simp only [SPLT] at hc); (try refine And.intro (by first | exact hc0 | exact ⟨hc0, hc0⟩ | exact ⟨hc0, hc0, hc0⟩) ?_)) | skip); first | (exact idx_row hy rfl) | ((rw [← hones]; exact idx_row hy rfl)) | ((try apply givesl); (focus (first | ((apply gives_go (hh)); (focus (exact DLes.au)); (focus exact rfl); (all_goals (exact pre))) | ((first | apply gives_go (isAtom4_sem _ _ _ _ _ _) | apply gives_go (number_sem _ _) | apply gives_go (r4NotX_sem _ _ _ _ _ _) | apply gives_go (atoms4Nil_sem _ _) | apply gives_go (r4AnyX_sem _)); (focus (exact DLes.au)); (focus exact rfl); (all_goals (exact pre))))); (all_goals exact rfl)) | exact sideG)))
           | ((with_reducible apply CallO.go); (conv => whnf); (with_reducible apply SideD.mk); (focus (first | ((apply giveso_go (atoms4O_sem _ _ _)); (focus (first | exact rfl | (simp; done))); (focus (exact DLes.au)); (focus exact rfl); (all_goals (exact pre))))))
           | ((with_reducible first | apply DrawR.go0 | apply KerB.mk); (focus kernel_rfl))
           | (with_reducible first | apply ends_ret | apply ends_norm | apply Halt'.mk)
           | ((with_reducible apply CondD.mk) <;> intro hb <;> (try simp only [SPLT] at hb) <;> (try first | exact noB)))
         all_goals (try exact (false : Bool))
         ·rw [if_neg (by rintro ⟨g1, g2⟩; rw [g2] at hnum; (try simp at hnum); (try simp at hb); omega)] at hadd
          subst hadd
          refine ⟨(j + 1, _, 1), ⟨by dsimp only; omega, by simp; omega, hv1, by simp, by simp⟩, by dsimp only; omega, ?_⟩
          (conv => whnf)
          refine ⟨?_, by rfl⟩
          repeat' ((conv => whnf); first | exact endF | (exact DLe.of_eq (congrArg (fun rs => D.obj [D.int .i64 k, D.sl 1 6 rs, D.str p, D.sl 0 1 (vs.map fun s => [D.str s]), D.int .i64 lo, D.int .i64 hi]) (by rw [List.map_append, List.map_cons, List.map_nil, Cond.row_mk]))) | exact endF2 | with_reducible apply DLes.cons)
         ·have hb0 : b = true := by rw [← hnum]; exact decide_eq_true (by (try simp at hb); omega)
          rw [if_pos ⟨by (try simp at hb); omega, hb0⟩] at hadd
          subst hadd
          refine ⟨(j + 1, _, 1), ⟨by dsimp only; omega, by dsimp only; omega, hv1, by simp, by simp⟩, by dsimp only; omega, ?_⟩
          (conv => whnf)
          refine ⟨?_, by rfl⟩
          repeat' ((conv => whnf); first | exact endF | exact endF2 | with_reducible apply DLes.cons)
        ·omega
     ·rw [innerR, if_neg (show ¬ (Cond.kind (.mk k3 ks3 p3 vs3 lo3 hi3) = k ∧ (k = 1 ∨ k = 2)) by intro h; have g : k3 = k := h.1; have g2 := h.2; first | omega | (simp_all; done) | (simp_all; omega))] at hG
      have hl1 : ([Cond.mk k3 ks3 p3 vs3 lo3 hi3] : List Cond).length = 1 := rfl
      refine ht_frzC [6] ?_
      conv => whnf
      refine loop_go (M := fun t => mem t [2, 3, 4000003, 5, 9, 10, 5000015, 5000016, 5000026, 5000028, 1000048, 1000051, 1000063]) hT hM (fun y : Nat × List Cond × Nat => [(7, .int .i64 y.1), (3, .obj [.int .i64 k, cellO y.2.2 y.2.1, .str p, .sl 0 1 (vs.map fun s => [.str s]), .int .i64 lo, .int .i64 hi])]) (fun y => y.1 ≤ ([Cond.mk k3 ks3 p3 vs3 lo3 hi3]).length ∧ y.2.1.length ≤ i * 1000 + y.1 ∧ (([Cond.mk k3 ks3 p3 vs3 lo3 hi3]).drop y.1).foldl (addR k) y.2.1 = G ∧ y.2.2 ≤ 2 ∧ (y.2.2 = 0 → y.2.1 = [])) (fun y => ([Cond.mk k3 ks3 p3 vs3 lo3 hi3]).length - y.1) ((0, acc, s)) ?_ ?_ ?_
      ·(conv => whnf)
       refine ⟨?_, by rfl⟩
       repeat' ((conv => whnf); first | exact endF | exact endF2 | with_reducible apply DLes.cons)
      ·exact ⟨Nat.zero_le _, by dsimp only; omega, hG, hs2, hs0⟩
      ·rintro ⟨j, acc1, s1⟩ ⟨hj, hm1, hv1, ht2, ht0⟩
       dsimp only at hj hm1 hv1 ht2 ht0 ⊢
       have hacl1 : (acc1.map Cond.row).length = acc1.length := List.length_map _
       cases hy : ([Cond.mk k3 ks3 p3 vs3 lo3 hi3])[j]? with
       | none => as_aux_lemma =>
        have hm' := List.getElem?_eq_none_iff.1 hy
        rw [List.drop_of_length_le hm', List.foldl_nil] at hv1
        subst hv1
        (try simp only [List.length_cons, List.length_nil] at hm')
        rcases s1 with _ | _ | _ | s1
        ·repeat' (
          (conv => whnf)
          first
           | ((with_reducible apply DrawI.at 64 idl40_15); (focus exact rfl); (focus kernel_rfl))
           | ((with_reducible apply DrawI.at 82 idl40_16); (focus exact rfl); (focus kernel_rfl))
           | ((with_reducible apply DrawI.at 133 idl40_26); (focus exact rfl); (focus kernel_rfl))
           | ((with_reducible apply DrawI.at 147 idl40_28); (focus exact rfl); (focus kernel_rfl))
           | with_reducible apply ExE.go
           | ((with_reducible apply EqF.mk); (focus exact rfl))
           | with_reducible apply AndI.mk
           | with_reducible exact trivial
           | ((try ((with_reducible first | apply NumE.go | apply IdxE.go | apply TextE.go | apply LookE.go | apply CallE.go); (conv => whnf))); (with_reducible apply SideD.mk); (focus ((first | (intro hc; have hc0 := hc; (try simp only [SPLT] at hc); (try refine And.intro (by first | exact hc0 | exact ⟨hc0, hc0⟩ | exact ⟨hc0, hc0, hc0⟩) ?_)) | skip); first | ((try apply givesl); (focus (((first | apply gives_go (isAtom4_sem _ _ _ _ _ _) | apply gives_go (number_sem _ _) | apply gives_go (r4NotX_sem _ _ _ _ _ _) | apply gives_go (atoms4Nil_sem _ _) | apply gives_go (r4AnyX_sem _)); (focus (exact DLes.au)); (focus exact rfl); (all_goals (exact pre))))); (all_goals exact rfl)) | exact sideG)))
           | ((with_reducible apply CallO.go); (conv => whnf); (with_reducible apply SideD.mk); (focus (first | ((apply giveso_go (atoms4O_sem _ _ _)); (focus (first | exact rfl | (simp; done))); (focus (exact DLes.au)); (focus exact rfl); (all_goals (exact pre))))))
           | ((with_reducible first | apply DrawR.go0 | apply KerB.mk); (focus kernel_rfl))
           | (with_reducible first | apply ends_ret | apply ends_norm | apply Halt'.mk)
           | ((with_reducible apply CondD.mk) <;> intro hb <;> (try simp only [SPLT] at hb) <;> (try first | exact noB)))
         all_goals (try exact (false : Bool))
         refine ⟨(i + 1, acc1, 0), ⟨by dsimp only; omega, by dsimp only; omega, hv, ht2, ht0⟩, by dsimp only; omega, ?_⟩
         (conv => whnf)
         refine ⟨?_, by rfl⟩
         repeat' ((conv => whnf); first | exact endF | exact endF2 | with_reducible apply DLes.cons)
        ·repeat' (
          (conv => whnf)
          first
           | ((with_reducible apply DrawI.at 64 idl40_15); (focus exact rfl); (focus kernel_rfl))
           | ((with_reducible apply DrawI.at 82 idl40_16); (focus exact rfl); (focus kernel_rfl))
           | ((with_reducible apply DrawI.at 133 idl40_26); (focus exact rfl); (focus kernel_rfl))
           | ((with_reducible apply DrawI.at 147 idl40_28); (focus exact rfl); (focus kernel_rfl))
           | with_reducible apply ExE.go
           | ((with_reducible apply EqF.mk); (focus exact rfl))
           | with_reducible apply AndI.mk
           | with_reducible exact trivial
           | ((try ((with_reducible first | apply NumE.go | apply IdxE.go | apply TextE.go | apply LookE.go | apply CallE.go); (conv => whnf))); (with_reducible apply SideD.mk); (focus ((first | (intro hc; have hc0 := hc; (try simp only [SPLT] at hc); (try refine And.intro (by first | exact hc0 | exact ⟨hc0, hc0⟩ | exact ⟨hc0, hc0, hc0⟩) ?_)) | skip); first | ((try apply givesl); (focus (((first | apply gives_go (isAtom4_sem _ _ _ _ _ _) | apply gives_go (number_sem _ _) | apply gives_go (r4NotX_sem _ _ _ _ _ _) | apply gives_go (atoms4Nil_sem _ _) | apply gives_go (r4AnyX_sem _)); (focus (exact DLes.au)); (focus exact rfl); (all_goals (exact pre))))); (all_goals exact rfl)) | exact sideG)))
           | ((with_reducible apply CallO.go); (conv => whnf); (with_reducible apply SideD.mk); (focus (first | ((apply giveso_go (atoms4O_sem _ _ _)); (focus (first | exact rfl | (simp; done))); (focus (exact DLes.au)); (focus exact rfl); (all_goals (exact pre))))))
           | ((with_reducible first | apply DrawR.go0 | apply KerB.mk); (focus kernel_rfl))
           | (with_reducible first | apply ends_ret | apply ends_norm | apply Halt'.mk)
           | ((with_reducible apply CondD.mk) <;> intro hb <;> (try simp only [SPLT] at hb) <;> (try first | exact noB)))
         all_goals (try exact (false : Bool))
         refine ⟨(i + 1, acc1, 1), ⟨by dsimp only; omega, by dsimp only; omega, hv, ht2, ht0⟩, by dsimp only; omega, ?_⟩
         (conv => whnf)
         refine ⟨?_, by rfl⟩
         repeat' ((conv => whnf); first | exact endF | exact endF2 | with_reducible apply DLes.cons)
        ·repeat' (
          (conv => whnf)
          first
           | ((with_reducible apply DrawI.at 64 idl40_15); (focus exact rfl); (focus kernel_rfl))
           | ((with_reducible apply DrawI.at 82 idl40_16); (focus exact rfl); (focus kernel_rfl))
           | ((with_reducible apply DrawI.at 133 idl40_26); (focus exact rfl); (focus kernel_rfl))
           | ((with_reducible apply DrawI.at 147 idl40_28); (focus exact rfl); (focus kernel_rfl))
           | with_reducible apply ExE.go
           | ((with_reducible apply EqF.mk); (focus exact rfl))
           | with_reducible apply AndI.mk
           | with_reducible exact trivial
           | ((try ((with_reducible first | apply NumE.go | apply IdxE.go | apply TextE.go | apply LookE.go | apply CallE.go); (conv => whnf))); (with_reducible apply SideD.mk); (focus ((first | (intro hc; have hc0 := hc; (try simp only [SPLT] at hc); (try refine And.intro (by first | exact hc0 | exact ⟨hc0, hc0⟩ | exact ⟨hc0, hc0, hc0⟩) ?_)) | skip); first | ((try apply givesl); (focus (((first | apply gives_go (isAtom4_sem _ _ _ _ _ _) | apply gives_go (number_sem _ _) | apply gives_go (r4NotX_sem _ _ _ _ _ _) | apply gives_go (atoms4Nil_sem _ _) | apply gives_go (r4AnyX_sem _)); (focus (exact DLes.au)); (focus exact rfl); (all_goals (exact pre))))); (all_goals exact rfl)) | exact sideG)))
           | ((with_reducible apply CallO.go); (conv => whnf); (with_reducible apply SideD.mk); (focus (first | ((apply giveso_go (atoms4O_sem _ _ _)); (focus (first | exact rfl | (simp; done))); (focus (exact DLes.au)); (focus exact rfl); (all_goals (exact pre))))))
           | ((with_reducible first | apply DrawR.go0 | apply KerB.mk); (focus kernel_rfl))
           | (with_reducible first | apply ends_ret | apply ends_norm | apply Halt'.mk)
           | ((with_reducible apply CondD.mk) <;> intro hb <;> (try simp only [SPLT] at hb) <;> (try first | exact noB)))
         all_goals (try exact (false : Bool))
         refine ⟨(i + 1, acc1, 2), ⟨by dsimp only; omega, by dsimp only; omega, hv, ht2, ht0⟩, by dsimp only; omega, ?_⟩
         (conv => whnf)
         refine ⟨?_, by rfl⟩
         repeat' ((conv => whnf); first | exact endF | exact endF2 | with_reducible apply DLes.cons)
        ·omega
       | some y => as_aux_lemma =>
        have hltj := (List.getElem?_eq_some_iff.1 hy).1
        (try simp only [List.length_cons, List.length_nil] at hltj)
        rw [foldR_at hy] at hv1
        have hh := number_sem acc1 y
        have hnum := numC_has acc1 y
        have hadd : addR k acc1 y = if (k = 1 ∨ k = 2) ∧ hasC acc1 y = true then acc1 else acc1 ++ [y] := rfl
        generalize addR k acc1 y = acc2 at hv1 hadd
        generalize hasC acc1 y = b at hnum hadd
        generalize numC acc1 y = nn at hh hnum
        obtain ⟨k2, ks2, p2, vs2, lo2, hi2⟩ := y
        rw [Cond.row_mk] at hh
        rcases s1 with _ | _ | _ | s1
        ·obtain rfl := ht0 rfl
         have hh := hh.weak (args' := [.nil, .agg [.int .i64 k2, .sl 0 6 (ks2.map Cond.row), .str p2, .sl 0 1 (vs2.map fun s => [.str s]), .int .i64 lo2, .int .i64 hi2]]) (.cons (.nil _ _) (.cons (.refl _) .nil))
         repeat' (
          (conv => whnf)
          first
           | ((with_reducible apply DrawI.at 64 idl40_15); (focus exact rfl); (focus kernel_rfl))
           | ((with_reducible apply DrawI.at 82 idl40_16); (focus exact rfl); (focus kernel_rfl))
           | ((with_reducible apply DrawI.at 133 idl40_26); (focus exact rfl); (focus kernel_rfl))
           | ((with_reducible apply DrawI.at 147 idl40_28); (focus exact rfl); (focus kernel_rfl))
           | with_reducible apply ExE.go
           | ((with_reducible apply EqF.mk); (focus exact rfl))
           | with_reducible apply AndI.mk
           | with_reducible exact trivial
           | ((try ((with_reducible first | apply NumE.go | apply IdxE.go | apply TextE.go | apply LookE.go | apply CallE.go); (conv => whnf))); (with_reducible apply SideD.mk); (focus ((first | (intro hc; have hc0 := hc; (try simp only [SPLT] at hc); (try refine And.intro (by first | exact hc0 | exact ⟨hc0, hc0⟩ | exact ⟨hc0, hc0, hc0⟩) ?_)) | skip); first | (exact idx_row hy rfl) | ((rw [← hones]; exact idx_row hy rfl)) | ((try apply givesl); (focus (first | ((apply gives_go (hh)); (focus (exact DLes.au)); (focus exact rfl); (all_goals (exact pre))) | ((first | apply gives_go (isAtom4_sem _ _ _ _ _ _) | apply gives_go (number_sem _ _) | apply gives_go (r4NotX_sem _ _ _ _ _ _) | apply gives_go (atoms4Nil_sem _ _) | apply gives_go (r4AnyX_sem _)); (focus (exact DLes.au)); (focus exact rfl); (all_goals (exact pre))))); (all_goals exact rfl)) | exact sideG)))
           | ((with_reducible apply CallO.go); (conv => whnf); (with_reducible apply SideD.mk); (focus (first | ((apply giveso_go (atoms4O_sem _ _ _)); (focus (first | exact rfl | (simp; done))); (focus (exact DLes.au)); (focus exact rfl); (all_goals (exact pre))))))
           | ((with_reducible first | apply DrawR.go0 | apply KerB.mk); (focus kernel_rfl))
           | (with_reducible first | apply ends_ret | apply ends_norm | apply Halt'.mk)
           | ((with_reducible apply CondD.mk) <;> intro hb <;> (try simp only [SPLT] at hb) <;> (try first | exact noB)))
         all_goals (try exact (false : Bool))
         ·rw [if_neg (by rintro ⟨g1, g2⟩; rw [g2] at hnum; (try simp at hnum); (try simp at hb); omega)] at hadd
          subst hadd
          refine ⟨(j + 1, _, 2), ⟨by dsimp only; omega, by simp; omega, hv1, by simp, by simp⟩, by dsimp only; omega, ?_⟩
          (conv => whnf)
          refine ⟨?_, by rfl⟩
          repeat' ((conv => whnf); first | exact endF | (exact DLe.of_eq (congrArg (fun rs => D.obj [D.int .i64 k, D.sl 2 6 rs, D.str p, D.sl 0 1 (vs.map fun s => [D.str s]), D.int .i64 lo, D.int .i64 hi]) (by rw [List.map_append, List.map_cons, List.map_nil, Cond.row_mk]; rfl))) | exact endF2 | with_reducible apply DLes.cons)
         ·have hb0 : b = true := by rw [← hnum]; exact decide_eq_true (by (try simp at hb); omega)
          rw [if_pos ⟨by (try simp at hb); omega, hb0⟩] at hadd
          subst hadd
          refine ⟨(j + 1, _, 0), ⟨by dsimp only; omega, by dsimp only; omega, hv1, by simp, by simp⟩, by dsimp only; omega, ?_⟩
          (conv => whnf)
          refine ⟨?_, by rfl⟩
          repeat' ((conv => whnf); first | exact endF | exact endF2 | with_reducible apply DLes.cons)
        ·repeat' (
          (conv => whnf)
          first
           | ((with_reducible apply DrawI.at 64 idl40_15); (focus exact rfl); (focus kernel_rfl))
           | ((with_reducible apply DrawI.at 82 idl40_16); (focus exact rfl); (focus kernel_rfl))
           | ((with_reducible apply DrawI.at 133 idl40_26); (focus exact rfl); (focus kernel_rfl))
           | ((with_reducible apply DrawI.at 147 idl40_28); (focus exact rfl); (focus kernel_rfl))
           | with_reducible apply ExE.go
           | ((with_reducible apply EqF.mk); (focus exact rfl))
           | with_reducible apply AndI.mk
           | with_reducible exact trivial
           | ((try ((with_reducible first | apply NumE.go | apply IdxE.go | apply TextE.go | apply LookE.go | apply CallE.go); (conv => whnf))); (with_reducible apply SideD.mk); (focus ((first | (intro hc; have hc0 := hc; (try simp only [SPLT] at hc); (try refine And.intro (by first | exact hc0 | exact ⟨hc0, hc0⟩ | exact ⟨hc0, hc0, hc0⟩) ?_)) | skip); first | (exact idx_row hy rfl) | ((rw [← hones]; exact idx_row hy rfl)) | ((try apply givesl); (focus (first | ((apply gives_go (hh)); (focus (exact DLes.au)); (focus exact rfl); (all_goals (exact pre))) | ((first | apply gives_go (isAtom4_sem _ _ _ _ _ _) | apply gives_go (number_sem _ _) | apply gives_go (r4NotX_sem _ _ _ _ _ _) | apply gives_go (atoms4Nil_sem _ _) | apply gives_go (r4AnyX_sem _)); (focus (exact DLes.au)); (focus exact rfl); (all_goals (exact pre))))); (all_goals exact rfl)) | exact sideG)))
           | ((with_reducible apply CallO.go); (conv => whnf); (with_reducible apply SideD.mk); (focus (first | ((apply giveso_go (atoms4O_sem _ _ _)); (focus (first | exact rfl | (simp; done))); (focus (exact DLes.au)); (focus exact rfl); (all_goals (exact pre))))))
           | ((with_reducible first | apply DrawR.go0 | apply KerB.mk); (focus kernel_rfl))
           | (with_reducible first | apply ends_ret | apply ends_norm | apply Halt'.mk)
           | ((with_reducible apply CondD.mk) <;> intro hb <;> (try simp only [SPLT] at hb) <;> (try first | exact noB)))
         all_goals (try exact (false : Bool))
         ·rw [if_neg (by rintro ⟨g1, g2⟩; rw [g2] at hnum; (try simp at hnum); (try simp at hb); omega)] at hadd
          subst hadd
          refine ⟨(j + 1, _, 1), ⟨by dsimp only; omega, by simp; omega, hv1, by simp, by simp⟩, by dsimp only; omega, ?_⟩
          (conv => whnf)
          refine ⟨?_, by rfl⟩
          repeat' ((conv => whnf); first | exact endF | (exact DLe.of_eq (congrArg (fun rs => D.obj [D.int .i64 k, D.sl 1 6 rs, D.str p, D.sl 0 1 (vs.map fun s => [D.str s]), D.int .i64 lo, D.int .i64 hi]) (by rw [List.map_append, List.map_cons, List.map_nil, Cond.row_mk]))) | exact endF2 | with_reducible apply DLes.cons)
         ·have hb0 : b = true := by rw [← hnum]; exact decide_eq_true (by (try simp at hb); omega)
          rw [if_pos ⟨by (try simp at hb); omega, hb0⟩] at hadd
          subst hadd
          refine ⟨(j + 1, _, 1), ⟨by dsimp only; omega, by dsimp only; omega, hv1, by simp, by simp⟩, by dsimp only; omega, ?_⟩
          (conv => whnf)
          refine ⟨?_, by rfl⟩
          repeat' ((conv => whnf); first | exact endF | exact endF2 | with_reducible apply DLes.cons)
        ·repeat' (
          (conv => whnf)
          first
           | ((with_reducible apply DrawI.at 64 idl40_15); (focus exact rfl); (focus kernel_rfl))
           | ((with_reducible apply DrawI.at 82 idl40_16); (focus exact rfl); (focus kernel_rfl))
           | ((with_reducible apply DrawI.at 133 idl40_26); (focus exact rfl); (focus kernel_rfl))
           | ((with_reducible apply DrawI.at 147 idl40_28); (focus exact rfl); (focus kernel_rfl))
           | with_reducible apply ExE.go
           | ((with_reducible apply EqF.mk); (focus exact rfl))
           | with_reducible apply AndI.mk
           | with_reducible exact trivial
           | ((try ((with_reducible first | apply NumE.go | apply IdxE.go | apply TextE.go | apply LookE.go | apply CallE.go); (conv => whnf))); (with_reducible apply SideD.mk); (focus ((first | (intro hc; have hc0 := hc; (try simp only [SPLT] at hc); (try refine And.intro (by first | exact hc0 | exact ⟨hc0, hc0⟩ | exact ⟨hc0, hc0, hc0⟩) ?_)) | skip); first | (exact idx_row hy rfl) | ((rw [← hones]; exact idx_row hy rfl)) | ((try apply givesl); (focus (first | ((apply gives_go (hh)); (focus (exact DLes.au)); (focus exact rfl); (all_goals (exact pre))) | ((first | apply gives_go (isAtom4_sem _ _ _ _ _ _) | apply gives_go (number_sem _ _) | apply gives_go (r4NotX_sem _ _ _ _ _ _) | apply gives_go (atoms4Nil_sem _ _) | apply gives_go (r4AnyX_sem _)); (focus (exact DLes.au)); (focus exact rfl); (all_goals (exact pre))))); (all_goals exact rfl)) | exact sideG)))
           | ((with_reducible apply CallO.go); (conv => whnf); (with_reducible apply SideD.mk); (focus (first | ((apply giveso_go (atoms4O_sem _ _ _)); (focus (first | exact rfl | (simp; done))); (focus (exact DLes.au)); (focus exact rfl); (all_goals (exact pre))))))
           | ((with_reducible first | apply DrawR.go0 | apply KerB.mk); (focus kernel_rfl))
           | (with_reducible first | apply ends_ret | apply ends_norm | apply Halt'.mk)
           | ((with_reducible apply CondD.mk) <;> intro hb <;> (try simp only [SPLT] at hb) <;> (try first | exact noB)))
         all_goals (try exact (false : Bool))
         ·rw [if_neg (by rintro ⟨g1, g2⟩; rw [g2] at hnum; (try simp at hnum); (try simp at hb); omega)] at hadd
          subst hadd
          refine ⟨(j + 1, _, 1), ⟨by dsimp only; omega, by simp; omega, hv1, by simp, by simp⟩, by dsimp only; omega, ?_⟩
          (conv => whnf)
          refine ⟨?_, by rfl⟩
          repeat' ((conv => whnf); first | exact endF | (exact DLe.of_eq (congrArg (fun rs => D.obj [D.int .i64 k, D.sl 1 6 rs, D.str p, D.sl 0 1 (vs.map fun s => [D.str s]), D.int .i64 lo, D.int .i64 hi]) (by rw [List.map_append, List.map_cons, List.map_nil, Cond.row_mk]))) | exact endF2 | with_reducible apply DLes.cons)
         ·have hb0 : b = true := by rw [← hnum]; exact decide_eq_true (by (try simp at hb); omega)
          rw [if_pos ⟨by (try simp at hb); omega, hb0⟩] at hadd
          subst hadd
          refine ⟨(j + 1, _, 1), ⟨by dsimp only; omega, by dsimp only; omega, hv1, by simp, by simp⟩, by dsimp only; omega, ?_⟩
          (conv => whnf)
          refine ⟨?_, by rfl⟩
          repeat' ((conv => whnf); first | exact endF | exact endF2 | with_reducible apply DLes.cons)
        ·omega
end Go.Proofs.YtbphihljkbdfpaaGreatDoor
