/- Conditions are right: the reference's check of all parts (walks). Atoms, Can, follows: the reference's (walks), and what tables say (plain). Implies: the reference's (walk). Atoms, Implies, Can: the program's; RuleFollowsMatchSpec (walks). -/
import Derived.Test.YtbphihljkbdfpaaGreatDoorZ26
import Derived.Test.YtbphihljkbdfpaaGreatDoorZ24
import Derived.Test.YtbphihljkbdfpaaGreatDoorZ23
namespace Go.Proofs.YtbphihljkbdfpaaGreatDoor
set_option linter.unusedSimpArgs false
set_option linter.unusedVariables false
open Go.RowKit
set_option maxRecDepth 100000
set_option maxHeartbeats 4000000

theorem check_sem (c : Cond) : c.Txt → ∀ d n : Int, 0 ≤ n → n ≤ 200 → 0 ≤ d → d ≤ 1000 → Sem Tryz.prog 65 [.agg c.row, .int .i64 d, .int .i64 n] (.tup [.int .i64 (c.chk d n).1, .int .i64 (c.chk d n).2]) := by
 induction c using Cond.ind with
 | h k ks p vs lo hi ih =>
  intro ht d n hn0 hn hd0 hd
  obtain ⟨_, hvs, hks⟩ := ht
  have h1 := checkNode_sem k (ks.map Cond.row) p vs lo hi hvs
  rw [List.length_map] at h1
  rw [chk_mk, Cond.row_mk]
  generalize ownErr k ks.length p vs lo hi = e at h1 ⊢
  generalize hr : (if 200 < n + 1 ∨ 6 < d then (n + 1, (2 : Int)) else if e ≠ 0 then (n + 1, e) else Cond.chks ks (d + 1) (n + 1)) = r
  refine sem_intro (M := fun t => mem t [1000063]) hT hM Tryz.func65 inferInstance rfl rfl rfl rfl rfl rfl ?_
  repeat' (
   (conv => whnf)
   first
    | ((try ((with_reducible first | apply NumE.go | apply IdxE.go | apply TextE.go | apply LookE.go | apply CallE.go); (conv => whnf))); (with_reducible apply SideD.mk); (focus ((first | (intro hc; have hc0 := hc; (try simp only [SPLT] at hc); (try refine And.intro (by first | exact hc0 | exact ⟨hc0, hc0⟩ | exact ⟨hc0, hc0, hc0⟩) ?_)) | skip); first | ((try apply givesl); (focus (first | ((apply gives_go (h1)); (focus (exact DLes.au)); (focus exact rfl); (all_goals (exact pre))) | ((apply gives_go (checkNode_sem _ _ _ _ _ _ _)); (focus (exact DLes.au)); (focus exact rfl); (all_goals (exact pre))))); (all_goals exact rfl)) | exact sideG)))
    | ((with_reducible first | apply DrawR.go0 | apply KerB.mk); (focus kernel_rfl))
    | (with_reducible first | apply ends_ret | apply ends_norm | apply Halt'.mk)
    | ((with_reducible apply CondD.mk) <;> intro hb <;> (try simp only [SPLT] at hb) <;> (try first | exact noB)))
  all_goals (try exact (false : Bool))
  ·rw [if_pos (by omega)] at hr
   subst hr
   repeat' ((conv => whnf); first | exact endR | (with_reducible first | apply And.intro | apply endsO_ret | apply endsO_norm | apply DLes.cons))
   all_goals (conv => whnf)
  ·rw [if_neg (by omega), if_pos (by omega)] at hr
   subst hr
   repeat' ((conv => whnf); first | exact endR | (with_reducible first | apply And.intro | apply endsO_ret | apply endsO_norm | apply DLes.cons))
   all_goals (conv => whnf)
  ·have hll : (ks.map Cond.row).length = ks.length := List.length_map _
   rw [if_neg (by omega), if_neg (by omega)] at hr
   refine loop_go (M := fun t => mem t [0, 1000063]) hT hM (fun x : Nat × Int => [(9, .int .i64 x.1), (2, .int .i64 x.2)]) (fun x => x.1 ≤ ks.length ∧ n + 1 + x.1 ≤ x.2 ∧ x.2 ≤ 200 ∧ Cond.chks (ks.drop x.1) (d + 1) x.2 = r) (fun x => ks.length - x.1) ((0, n + 1)) ?_ ?_ ?_
   ·(conv => whnf)
    refine ⟨?_, by rfl⟩
    repeat' ((conv => whnf); first | exact endF | exact endF2 | with_reducible apply DLes.cons)
   ·exact ⟨Nat.zero_le _, by dsimp only; omega, by dsimp only; omega, hr⟩
   ·rintro ⟨i, m⟩ ⟨hi, hm1, hm2, hv⟩
    dsimp only at hi hm1 hm2 hv ⊢
    cases hx : ks[i]? with
    | none =>
     have hm := List.getElem?_eq_none_iff.1 hx
     rw [List.drop_of_length_le hm, chks_nil] at hv
     subst hv
     repeat' (
      (conv => whnf)
      first
       | ((try ((with_reducible first | apply NumE.go | apply IdxE.go | apply TextE.go | apply LookE.go | apply CallE.go); (conv => whnf))); (with_reducible apply SideD.mk); (focus ((first | (intro hc; have hc0 := hc; (try simp only [SPLT] at hc); (try refine And.intro (by first | exact hc0 | exact ⟨hc0, hc0⟩ | exact ⟨hc0, hc0, hc0⟩) ?_)) | skip); first | ((try apply givesl); (focus (((apply gives_go (checkNode_sem _ _ _ _ _ _ _)); (focus (exact DLes.au)); (focus exact rfl); (all_goals (exact pre))))); (all_goals exact rfl)) | exact sideG)))
       | ((with_reducible first | apply DrawR.go0 | apply KerB.mk); (focus kernel_rfl))
       | (with_reducible first | apply ends_ret | apply ends_norm | apply Halt'.mk)
       | ((with_reducible apply CondD.mk) <;> intro hb <;> (try simp only [SPLT] at hb) <;> (try first | exact noB)))
     all_goals (try exact (false : Bool))
     repeat' ((conv => whnf); first | exact endR | (with_reducible first | apply And.intro | apply endsO_ret | apply endsO_norm | apply DLes.cons))
     all_goals (conv => whnf)
    | some x =>
     have hlt := (List.getElem?_eq_some_iff.1 hx).1
     obtain ⟨hb1, hb2⟩ := chk_bd x (d + 1) m hm2
     have ih' := ih x (List.mem_of_getElem? hx) (hks x (List.mem_of_getElem? hx)) (d + 1) m (by omega) hm2 (by omega) (by omega)
     rw [chks_at hx] at hv
     generalize x.chk (d + 1) m = y at hv ih' hb1 hb2
     obtain ⟨m2, e2⟩ := y
     obtain ⟨k1, ks1, p1, vs1, lo1, hi1⟩ := x
     rw [Cond.row_mk] at ih'
     dsimp only at hv ih' hb1 hb2
     repeat' (
      (conv => whnf)
      first
       | ((try ((with_reducible first | apply NumE.go | apply IdxE.go | apply TextE.go | apply LookE.go | apply CallE.go); (conv => whnf))); (with_reducible apply SideD.mk); (focus ((first | (intro hc; have hc0 := hc; (try simp only [SPLT] at hc); (try refine And.intro (by first | exact hc0 | exact ⟨hc0, hc0⟩ | exact ⟨hc0, hc0, hc0⟩) ?_)) | skip); first | (exact idx_row hx rfl) | ((try apply givesl); (focus (first | ((apply gives_go (ih')); (focus (exact DLes.au)); (focus exact rfl); (all_goals (exact pre))) | ((apply gives_go (checkNode_sem _ _ _ _ _ _ _)); (focus (exact DLes.au)); (focus exact rfl); (all_goals (exact pre))))); (all_goals exact rfl)) | exact sideG)))
       | ((with_reducible first | apply DrawR.go0 | apply KerB.mk); (focus kernel_rfl))
       | (with_reducible first | apply ends_ret | apply ends_norm | apply Halt'.mk)
       | ((with_reducible apply CondD.mk) <;> intro hb <;> (try simp only [SPLT] at hb) <;> (try first | exact noB)))
     all_goals (try exact (false : Bool))
     ·rw [if_pos (by omega)] at hv
      subst hv
      repeat' ((conv => whnf); first | exact endR | (with_reducible first | apply And.intro | apply endsO_ret | apply endsO_norm | apply DLes.cons))
      all_goals (conv => whnf)
     ·rw [if_neg (by omega)] at hv
      refine ⟨(i + 1, m2), ⟨by dsimp only; omega, by dsimp only; omega, by dsimp only; omega, hv⟩, by dsimp only; omega, ?_⟩
      (conv => whnf)
      refine ⟨?_, by rfl⟩
      repeat' ((conv => whnf); first | exact endF | exact endF2 | with_reducible apply DLes.cons)
theorem checkCond4_sem (c : Cond) (ht : c.Txt) : Sem Tryz.prog 39 [.agg c.row] (.int .i64 c.err) := by
 have h := check_sem c ht 0 0 (by omega) (by omega) (by omega) (by omega)
 unfold Cond.err
 generalize c.chk 0 0 = y at h ⊢
 obtain ⟨m, e⟩ := y
 obtain ⟨k, ks, p, vs, lo, hi⟩ := c
 rw [Cond.row_mk] at h ⊢
 dsimp only at h ⊢
 refine sem_intro (M := fun t => mem t [1000063]) hT hM Tryz.func39 inferInstance rfl rfl rfl rfl rfl rfl ?_
 repeat' (
  (conv => whnf)
  first
   | ((try ((with_reducible first | apply NumE.go | apply IdxE.go | apply TextE.go | apply LookE.go | apply CallE.go); (conv => whnf))); (with_reducible apply SideD.mk); (focus (first | ((try apply givesl); (focus (((apply gives_go (h)); (focus (exact DLes.au)); (focus exact rfl); (all_goals (exact pre))))); (all_goals exact rfl)) | exact side)))
   | ((with_reducible first | apply DrawR.go0 | apply KerB.mk); (focus kernel_rfl))
   | (with_reducible first | apply ends_ret | apply ends_norm | apply Halt'.mk)
   | ((with_reducible apply CondD.mk) <;> intro hb <;> (try simp only [SPLT] at hb) <;> (try first | exact noB)))
 all_goals (try exact (false : Bool))
 repeat' ((conv => whnf); first | exact endR | (with_reducible first | apply And.intro | apply endsO_ret | apply endsO_norm | apply DLes.cons))
 all_goals (conv => whnf)
end Go.Proofs.YtbphihljkbdfpaaGreatDoor
namespace Go.Proofs.YtbphihljkbdfpaaGreatDoor
set_option linter.unusedSimpArgs false
set_option linter.unusedVariables false
open Go.RowKit
set_option maxRecDepth 100000
set_option maxHeartbeats 4000000

theorem all_congr {α : Type} {p q : α → Bool} : ∀ l : List α, (∀ x ∈ l, p x = q x) → l.all p = l.all q
 | [], _ => rfl
 | a :: l, h => by rw [List.all_cons, List.all_cons, h a (by simp), all_congr l fun x hx => h x (by simp [hx])]
theorem any_notq {α : Type} {p q : α → Bool} : ∀ l : List α, (∀ x ∈ l, p x = !q x) → l.any p = !l.all q
 | [], _ => rfl
 | a :: l, h => by rw [List.any_cons, List.all_cons, h a (by simp), any_notq l fun x hx => h x (by simp [hx])]; cases q a <;> simp
theorem tabF_len (f : Form) (m : Nat) : (tabF f m).length = 2 ^ m := by unfold tabF; rw [List.length_map, List.length_range]
theorem tabF_get {f : Form} {m s : Nat} (h : s < 2 ^ m) : (tabF f m).getD s false = f.tv s := by
 unfold tabF
 rw [List.getD_eq_getElem?_getD, List.getElem?_map, List.getElem?_range h]
 rfl
theorem imp_foll (cs : List Cond) (b : Cond) (L : List Cond) : impB (tabF (b.form L) L.length) (cs.map fun a => tabF (a.form L) L.length) = follB cs b L := by
 unfold impB follB
 rw [tabF_len]
 refine all_congr _ fun s hs => ?_
 have hs := List.mem_range.1 hs
 rw [tabF_get hs, form_tv, List.any_map, any_notq (q := fun c : Cond => c.tv L s) cs (fun x _ => by show (!(tabF (x.form L) L.length).getD s false) = _; rw [tabF_get hs, form_tv]), Bool.or_comm]
theorem allC_tv (cs : List Cond) (L : List Cond) (bits : Int) : (allC cs).tv L bits = cs.all fun c => c.tv L bits := by
 rw [allC, ctv_mk, if_pos rfl, ctvA_all]
theorem ev_all {cs L : List Cond} (h : ∀ c ∈ cs, c.Ev L) : (allC cs).Ev L := .mk (fun h => by cases h) (fun h => by cases h) fun _ => h
theorem follows4_sem (cs : List Cond) (b : Cond) (L : List Cond) (hL : L.length ≤ 12) (ha : ∀ c ∈ cs, c.Ev L) (hb : b.Ev L) : Sem Tryz.prog 50 [.sl 0 6 (cs.map Cond.row), .agg b.row, .sl 0 6 (L.map Cond.row)] (.bool (follB cs b L)) := by
 obtain ⟨N, hN, hN2⟩ : ∃ N : Nat, 2 ^ L.length = N ∧ N ≤ 4096 := ⟨_, rfl, two_pow_le hL⟩
 have hll : (L.map Cond.row).length = L.length := List.length_map _
 have hw := shl_ok (many := (L.map Cond.row).length) (by rw [hll]; exact hN) hN2
 have h1 : ∀ s : Nat, Sem Tryz.prog 53 [.agg (allC cs).row, .sl 0 6 (L.map Cond.row), .int .i64 s] (.bool (cs.all fun c => c.tv L s)) := fun s => by
  rw [← allC_tv]
  exact isTrue4_sem L (by omega) _ (ev_all ha) s (by omega)
 have h2 : ∀ s : Nat, Sem Tryz.prog 53 [.agg b.row, .sl 0 6 (L.map Cond.row), .int .i64 s] (.bool (b.tv L s)) := fun s => isTrue4_sem L (by omega) _ hb s (by omega)
 obtain ⟨good, hgd⟩ : ∃ good : Nat → Bool, good = fun s : Nat => !(cs.all fun c => c.tv L s) || b.tv L s := ⟨_, rfl⟩
 have hfo : follB cs b L = (List.range N).all good := by rw [← hN, hgd]; rfl
 rw [hfo]
 have hgd : ∀ s : Nat, good s = (!(cs.all fun c => c.tv L s) || b.tv L s) := fun s => by rw [hgd]
 generalize (fun s : Nat => cs.all fun c => c.tv L s) = ta at h1 hgd
 obtain ⟨k, ks, p, vs, lo, hi⟩ := b
 rw [allC] at h1
 rw [Cond.row_mk] at h2 ⊢
 simp only [Cond.row_mk, List.map_nil] at h1
 refine sem_intro (M := fun t => mem t [1000048, 1000051, 1000063]) hT hM Tryz.func50 inferInstance rfl rfl rfl rfl rfl rfl ?_
 repeat' (
  (conv => whnf)
  first
   | ((try ((with_reducible first | apply NumE.go | apply IdxE.go | apply TextE.go | apply LookE.go | apply CallE.go); (conv => whnf))); (with_reducible apply SideD.mk); (focus ((first | (intro hc; have hc0 := hc; (try simp only [SPLT] at hc); (try refine And.intro (by first | exact hc0 | exact ⟨hc0, hc0⟩ | exact ⟨hc0, hc0, hc0⟩) ?_)) | skip); first | ((try apply givesl); (focus (((apply gives_go (r4AllX_sem _)); (focus (exact DLes.au)); (focus exact rfl); (all_goals (exact pre))))); (all_goals exact rfl)) | exact sideG)))
   | ((with_reducible first | apply DrawR.go0 | apply KerB.mk); (focus kernel_rfl))
   | (with_reducible first | apply ends_ret | apply ends_norm | apply Halt'.mk)
   | ((with_reducible apply CondD.mk) <;> intro hb <;> (try simp only [SPLT] at hb) <;> (try first | exact noB)))
 all_goals (try exact (false : Bool))
 refine loop_go (M := fun t => mem t [1000048, 1000051, 1000063]) hT hM (fun s : Nat => [(7, .int .i64 s)]) (fun s => s ≤ N ∧ (List.range s).all good = true) (fun s => N - s) (0) ?_ ?_ ?_
 ·(conv => whnf)
  refine ⟨?_, by rfl⟩
  repeat' ((conv => whnf); first | exact endF | exact endF2 | with_reducible apply DLes.cons)
 ·exact ⟨Nat.zero_le _, rfl⟩
 ·rintro s ⟨hs1, hs2⟩
  have h1 := h1 s
  have h2 := h2 s
  have hg := hgd s
  by_cases hlt : s < N
  ·have hno : good s = false → (List.range N).all good = false := fun h => by
    rw [List.all_eq_false]
    exact ⟨s, List.mem_range.2 hlt, by simp [h]⟩
   have hyes : good s = true → (List.range (s + 1)).all good = true := fun h => by
    rw [List.range_succ, List.all_append, hs2]
    simp [h]
   generalize (List.range N).all good = r at hno ⊢
   generalize (cs.all fun c => c.tv L s) = qa at h1 hg
   generalize (Cond.mk k ks p vs lo hi).tv L s = qb at h2 hg
   repeat' (
    (conv => whnf)
    first
     | ((try ((with_reducible first | apply NumE.go | apply IdxE.go | apply TextE.go | apply LookE.go | apply CallE.go); (conv => whnf))); (with_reducible apply SideD.mk); (focus ((first | (intro hc; have hc0 := hc; (try simp only [SPLT] at hc); (try refine And.intro (by first | exact hc0 | exact ⟨hc0, hc0⟩ | exact ⟨hc0, hc0, hc0⟩) ?_)) | skip); first | (exact ⟨by omega, by show _ ≤ (64 : Int); omega, hw⟩) | ((try apply givesl); (focus (first | ((apply gives_go (h1)); (focus (exact DLes.au)); (focus exact rfl); (all_goals (exact pre))) | ((apply gives_go (h2)); (focus (exact DLes.au)); (focus exact rfl); (all_goals (exact pre))) | ((apply gives_go (r4AllX_sem _)); (focus (exact DLes.au)); (focus exact rfl); (all_goals (exact pre))))); (all_goals exact rfl)) | exact sideG)))
     | ((with_reducible first | apply DrawR.go0 | apply KerB.mk); (focus kernel_rfl))
     | (with_reducible first | apply ends_ret | apply ends_norm | apply Halt'.mk)
     | ((with_reducible apply CondD.mk) <;> intro hb <;> (try simp only [SPLT] at hb) <;> (try first | exact noB)))
   all_goals (try exact (false : Bool))
   ·repeat' ((conv => whnf); first | exact endR | (with_reducible first | apply And.intro | apply endsO_ret | apply endsO_norm | apply DLes.cons))
    all_goals (conv => whnf)
    exact rle_bool (hno (by rw [hg]; revert hb; cases qa <;> cases qb <;> simp)).symm
   ·refine ⟨s + 1, ⟨by omega, hyes (by rw [hg]; revert hb; cases qa <;> cases qb <;> simp)⟩, by omega, ?_⟩
    (conv => whnf)
    refine ⟨?_, by rfl⟩
    repeat' ((conv => whnf); first | exact endF | exact endF2 | with_reducible apply DLes.cons)
  ·obtain rfl : s = N := by omega
   repeat' (
    (conv => whnf)
    first
     | ((try ((with_reducible first | apply NumE.go | apply IdxE.go | apply TextE.go | apply LookE.go | apply CallE.go); (conv => whnf))); (with_reducible apply SideD.mk); (focus ((first | (intro hc; have hc0 := hc; (try simp only [SPLT] at hc); (try refine And.intro (by first | exact hc0 | exact ⟨hc0, hc0⟩ | exact ⟨hc0, hc0, hc0⟩) ?_)) | skip); first | (exact ⟨by omega, by show _ ≤ (64 : Int); omega, hw⟩) | ((try apply givesl); (focus (((apply gives_go (r4AllX_sem _)); (focus (exact DLes.au)); (focus exact rfl); (all_goals (exact pre))))); (all_goals exact rfl)) | exact sideG)))
     | ((with_reducible first | apply DrawR.go0 | apply KerB.mk); (focus kernel_rfl))
     | (with_reducible first | apply ends_ret | apply ends_norm | apply Halt'.mk)
     | ((with_reducible apply CondD.mk) <;> intro hb <;> (try simp only [SPLT] at hb) <;> (try first | exact noB)))
   all_goals (try exact (false : Bool))
   repeat' ((conv => whnf); first | exact endR | (with_reducible first | apply And.intro | apply endsO_ret | apply endsO_norm | apply DLes.cons))
   all_goals (conv => whnf)
   exact rle_bool hs2.symm
def atomsN (c : Cond) : List Cond × Int := if c.err ≠ 0 then ([], c.err) else (c.ats [], 0)
def impliesN (a b : Cond) : Bool × Int :=
 if a.err ≠ 0 then (false, a.err) else if b.err ≠ 0 then (false, b.err) else if 12 < (b.ats (a.ats [])).length then (false, 2) else (follB [a] b (b.ats (a.ats [])), 0)
def canN (c : Cond) : Bool × Int :=
 if c.err ≠ 0 then (false, c.err) else if 12 < (c.ats []).length then (false, 2) else (canB c (c.ats []), 0)
theorem acnts_sizes : ∀ l : List Cond, (∀ x ∈ l, x.acnt ≤ x.size) → Cond.acnts l ≤ Cond.sizes l
 | [], _ => by rw [acnts_nil]; exact Nat.zero_le _
 | x :: l, h => by
  have h1 := h x (by simp)
  have h2 := acnts_sizes l fun y hy => h y (by simp [hy])
  rw [acnts_cons, sizes_cons]
  omega
theorem acnt_size (c : Cond) : c.acnt ≤ c.size := by
 induction c using Cond.ind with
 | h k ks p vs lo hi ih =>
  rw [acnt_mk, size_mk]
  split
  ·omega
  ·have := acnts_sizes ks ih
   omega
/-- A condition without error. -/
structure Cond.Good (c : Cond) : Prop where
 nice : c.Nice 200
 few : c.acnt ≤ 200
theorem err_good {c : Cond} (ht : c.Txt) (h : c.err = 0) : c.Good := by
 have h1 := chk_ok c 0 0 (by omega) (by omega) ht h
 have h2 := (chk_bd c 0 0 (by omega)).2 h
 have h3 := acnt_size c
 exact ⟨h1.2, by omega⟩
theorem atoms4A_sem (c : Cond) (ht : c.Txt) : Sem Tryz.prog 19 [.agg c.row] (.tup [.sl 0 6 ((atomsN c).1.map Cond.row), .int .i64 (atomsN c).2]) := by
 have h1 := checkCond4_sem c ht
 have h2 := fun h : c.err = 0 => atoms4Nil_sem c (by have := (err_good ht h).few; omega)
 unfold atomsN
 generalize c.ats [] = A at h2 ⊢
 generalize c.err = e1 at h1 h2 ⊢
 obtain ⟨k, ks, p, vs, lo, hi⟩ := c
 rw [Cond.row_mk] at h1 h2 ⊢
 by_cases g1 : e1 = 0
 ·subst g1
  have h2 := h2 rfl
  rw [if_neg (by simp)]
  refine sem_intro (M := fun t => mem t [1000048, 1000051, 1000063]) hT hM Tryz.func19 inferInstance rfl rfl rfl rfl rfl rfl ?_
  repeat' (
   (conv => whnf)
   first
    | ((try ((with_reducible first | apply NumE.go | apply IdxE.go | apply TextE.go | apply LookE.go | apply CallE.go); (conv => whnf))); (with_reducible apply SideD.mk); (focus (first | ((try apply givesl); (focus (first | ((apply gives_go (h1)); (focus (exact DLes.au)); (focus exact rfl); (all_goals (exact pre))) | ((apply gives_go (h2)); (focus (exact DLes.au)); (focus exact rfl); (all_goals (exact pre))) | ((first | apply gives_go (checkCond4_sem _ _) | apply gives_go (atoms4Nil_sem _ _)); (focus (exact DLes.au)); (focus exact rfl); (all_goals (exact pre))))); (all_goals exact rfl)) | exact side)))
    | ((with_reducible apply CallO.go); (conv => whnf); (with_reducible apply SideD.mk); (focus (first | ((apply giveso_go (atoms4O_sem _ _ _)); (focus (first | exact rfl | (simp; done))); (focus (exact DLes.au)); (focus exact rfl); (all_goals (exact pre))))))
    | ((with_reducible first | apply DrawR.go0 | apply KerB.mk); (focus kernel_rfl))
    | (with_reducible first | apply ends_ret | apply ends_norm | apply Halt'.mk)
    | ((with_reducible apply CondD.mk) <;> intro hb <;> (try simp only [SPLT] at hb) <;> (try first | exact noB)))
  all_goals (try exact (false : Bool))
  repeat' ((conv => whnf); first | exact endR | (with_reducible first | apply And.intro | apply endsO_ret | apply endsO_norm | apply DLes.cons))
  all_goals (conv => whnf)
 ·rw [if_pos g1]
  refine sem_intro (M := fun t => mem t [1000048, 1000051, 1000063]) hT hM Tryz.func19 inferInstance rfl rfl rfl rfl rfl rfl ?_
  repeat' (
   (conv => whnf)
   first
    | ((try ((with_reducible first | apply NumE.go | apply IdxE.go | apply TextE.go | apply LookE.go | apply CallE.go); (conv => whnf))); (with_reducible apply SideD.mk); (focus (first | ((try apply givesl); (focus (first | ((apply gives_go (h1)); (focus (exact DLes.au)); (focus exact rfl); (all_goals (exact pre))) | ((first | apply gives_go (checkCond4_sem _ _) | apply gives_go (atoms4Nil_sem _ _)); (focus (exact DLes.au)); (focus exact rfl); (all_goals (exact pre))))); (all_goals exact rfl)) | exact side)))
    | ((with_reducible apply CallO.go); (conv => whnf); (with_reducible apply SideD.mk); (focus (first | ((apply giveso_go (atoms4O_sem _ _ _)); (focus (first | exact rfl | (simp; done))); (focus (exact DLes.au)); (focus exact rfl); (all_goals (exact pre))))))
    | ((with_reducible first | apply DrawR.go0 | apply KerB.mk); (focus kernel_rfl))
    | (with_reducible first | apply ends_ret | apply ends_norm | apply Halt'.mk)
    | ((with_reducible apply CondD.mk) <;> intro hb <;> (try simp only [SPLT] at hb) <;> (try first | exact noB)))
  all_goals (try exact (false : Bool))
  repeat' ((conv => whnf); first | exact endR | (with_reducible first | apply And.intro | apply endsO_ret | apply endsO_norm | apply DLes.cons))
  all_goals (conv => whnf)
theorem can4_sem (c : Cond) (ht : c.Txt) : Sem Tryz.prog 23 [.agg c.row] (.tup [.bool (canN c).1, .int .i64 (canN c).2]) := by
 have h1 := checkCond4_sem c ht
 have h2 := fun h : c.err = 0 => atoms4Nil_sem c (by have := (err_good ht h).few; omega)
 have h3 := fun h : c.err = 0 => nice_ev c (err_good ht h).nice (ats_grow c []).2
 unfold canN
 generalize c.ats [] = A at h2 h3 ⊢
 by_cases g1 : c.err = 0
 ·have h2 := h2 g1
  have h3 := h3 g1
  rw [g1] at h1
  rw [if_neg (by simpa using g1)]
  clear g1
  have hal : (A.map Cond.row).length = A.length := List.length_map _
  by_cases h12 : 12 < A.length
  ·rw [if_pos h12]
   clear h3
   obtain ⟨k, ks, p, vs, lo, hi⟩ := c
   rw [Cond.row_mk] at h1 h2 ⊢
   refine sem_intro (M := fun t => mem t [1000048, 1000051, 1000063]) hT hM Tryz.func23 inferInstance rfl rfl rfl rfl rfl rfl ?_
   repeat' (
    (conv => whnf)
    first
     | ((try ((with_reducible first | apply NumE.go | apply IdxE.go | apply TextE.go | apply LookE.go | apply CallE.go); (conv => whnf))); (with_reducible apply SideD.mk); (focus (first | ((try apply givesl); (focus (first | ((apply gives_go (h1)); (focus (exact DLes.au)); (focus exact rfl); (all_goals (exact pre))) | ((apply gives_go (h2)); (focus (exact DLes.au)); (focus exact rfl); (all_goals (exact pre))) | ((first | apply gives_go (checkCond4_sem _ _) | apply gives_go (atoms4Nil_sem _ _)); (focus (exact DLes.au)); (focus exact rfl); (all_goals (exact pre))))); (all_goals exact rfl)) | exact side)))
     | ((with_reducible apply CallO.go); (conv => whnf); (with_reducible apply SideD.mk); (focus (first | ((apply giveso_go (atoms4O_sem _ _ _)); (focus (first | exact rfl | (simp; done))); (focus (exact DLes.au)); (focus exact rfl); (all_goals (exact pre))))))
     | ((with_reducible first | apply DrawR.go0 | apply KerB.mk); (focus kernel_rfl))
     | (with_reducible first | apply ends_ret | apply ends_norm | apply Halt'.mk)
     | ((with_reducible apply CondD.mk) <;> intro hb <;> (try simp only [SPLT] at hb) <;> (try first | exact noB)))
   all_goals (try exact (false : Bool))
   repeat' ((conv => whnf); first | exact endR | (with_reducible first | apply And.intro | apply endsO_ret | apply endsO_norm | apply DLes.cons))
   all_goals (conv => whnf)
  ·rw [if_neg h12]
   have hT : ∀ s : Nat, Sem Tryz.prog 53 [.agg c.row, .sl 0 6 (A.map Cond.row), .int .i64 s] (.bool (c.tv A s)) := fun s => isTrue4_sem A (by omega) _ h3 s (by omega)
   obtain ⟨N, hN, hN2⟩ : ∃ N : Nat, 2 ^ A.length = N ∧ N ≤ 4096 := ⟨_, rfl, two_pow_le (by omega)⟩
   have hw := shl_ok (many := (A.map Cond.row).length) (by rw [hal]; exact hN) hN2
   obtain ⟨g, hg⟩ : ∃ g : Nat → Bool, g = fun s : Nat => c.tv A s := ⟨_, rfl⟩
   have hcan : canB c A = (List.range N).any g := by rw [← hN, hg]; rfl
   rw [hcan]
   have hTv : ∀ s : Nat, Sem Tryz.prog 53 [.agg c.row, .sl 0 6 (A.map Cond.row), .int .i64 s] (.bool (g s)) := fun s => by rw [hg]; exact hT s
   clear hT hg hcan h3
   obtain ⟨k, ks, p, vs, lo, hi⟩ := c
   rw [Cond.row_mk] at h1 h2 hTv ⊢
   refine sem_intro (M := fun t => mem t [1000048, 1000051, 1000063]) hT hM Tryz.func23 inferInstance rfl rfl rfl rfl rfl rfl ?_
   repeat' (
    (conv => whnf)
    first
     | ((try ((with_reducible first | apply NumE.go | apply IdxE.go | apply TextE.go | apply LookE.go | apply CallE.go); (conv => whnf))); (with_reducible apply SideD.mk); (focus (first | ((try apply givesl); (focus (first | ((apply gives_go (h1)); (focus (exact DLes.au)); (focus exact rfl); (all_goals (exact pre))) | ((apply gives_go (h2)); (focus (exact DLes.au)); (focus exact rfl); (all_goals (exact pre))) | ((first | apply gives_go (checkCond4_sem _ _) | apply gives_go (atoms4Nil_sem _ _)); (focus (exact DLes.au)); (focus exact rfl); (all_goals (exact pre))))); (all_goals exact rfl)) | exact side)))
     | ((with_reducible apply CallO.go); (conv => whnf); (with_reducible apply SideD.mk); (focus (first | ((apply giveso_go (atoms4O_sem _ _ _)); (focus (first | exact rfl | (simp; done))); (focus (exact DLes.au)); (focus exact rfl); (all_goals (exact pre))))))
     | ((with_reducible first | apply DrawR.go0 | apply KerB.mk); (focus kernel_rfl))
     | (with_reducible first | apply ends_ret | apply ends_norm | apply Halt'.mk)
     | ((with_reducible apply CondD.mk) <;> intro hb <;> (try simp only [SPLT] at hb) <;> (try first | exact noB)))
   all_goals (try exact (false : Bool))
   refine loop_go (M := fun t => mem t [1000048, 1000051, 1000063]) hT hM (fun s : Nat => [(6, .int .i64 s)]) (fun s => s ≤ N ∧ (List.range s).any g = false) (fun s => N - s) (0) ?_ ?_ ?_
   ·(conv => whnf)
    refine ⟨?_, by rfl⟩
    repeat' ((conv => whnf); first | exact endF | exact endF2 | with_reducible apply DLes.cons)
   ·exact ⟨Nat.zero_le _, rfl⟩
   ·rintro s ⟨hs1, hs2⟩
    have h5 := hTv s
    by_cases hlt : s < N
    ·have hyes : g s = true → (List.range N).any g = true := fun h => by
      rw [List.any_eq_true]
      exact ⟨s, List.mem_range.2 hlt, h⟩
     have hno : g s = false → (List.range (s + 1)).any g = false := fun h => by
      rw [List.range_succ, List.any_append, hs2]
      simp [h]
     generalize (List.range N).any g = r at hyes ⊢
     generalize g s = q at h5 hyes hno
     repeat' (
      (conv => whnf)
      first
       | ((try ((with_reducible first | apply NumE.go | apply IdxE.go | apply TextE.go | apply LookE.go | apply CallE.go); (conv => whnf))); (with_reducible apply SideD.mk); (focus (first | (exact ⟨by omega, by show _ ≤ (64 : Int); omega, hw⟩) | ((try apply givesl); (focus (first | ((apply gives_go (h5)); (focus (exact DLes.au)); (focus exact rfl); (all_goals (exact pre))) | ((first | apply gives_go (checkCond4_sem _ _) | apply gives_go (atoms4Nil_sem _ _)); (focus (exact DLes.au)); (focus exact rfl); (all_goals (exact pre))))); (all_goals exact rfl)) | exact side)))
       | ((with_reducible apply CallO.go); (conv => whnf); (with_reducible apply SideD.mk); (focus (first | ((apply giveso_go (atoms4O_sem _ _ _)); (focus (first | exact rfl | (simp; done))); (focus (exact DLes.au)); (focus exact rfl); (all_goals (exact pre))))))
       | ((with_reducible first | apply DrawR.go0 | apply KerB.mk); (focus kernel_rfl))
       | (with_reducible first | apply ends_ret | apply ends_norm | apply Halt'.mk)
       | ((with_reducible apply CondD.mk) <;> intro hb <;> (try simp only [SPLT] at hb) <;> (try first | exact noB)))
     all_goals (try exact (false : Bool))
     ·repeat' ((conv => whnf); first | exact endR | (with_reducible first | apply And.intro | apply endsO_ret | apply endsO_norm | apply DLes.cons))
      all_goals (conv => whnf)
      exact rle_bool (hyes hb).symm
     ·refine ⟨s + 1, ⟨by omega, hno (by simpa using hb)⟩, by omega, ?_⟩
      (conv => whnf)
      refine ⟨?_, by rfl⟩
      repeat' ((conv => whnf); first | exact endF | exact endF2 | with_reducible apply DLes.cons)
    ·obtain rfl : s = N := by omega
     repeat' (
      (conv => whnf)
      first
       | ((try ((with_reducible first | apply NumE.go | apply IdxE.go | apply TextE.go | apply LookE.go | apply CallE.go); (conv => whnf))); (with_reducible apply SideD.mk); (focus (first | (exact ⟨by omega, by show _ ≤ (64 : Int); omega, hw⟩) | ((try apply givesl); (focus (((first | apply gives_go (checkCond4_sem _ _) | apply gives_go (atoms4Nil_sem _ _)); (focus (exact DLes.au)); (focus exact rfl); (all_goals (exact pre))))); (all_goals exact rfl)) | exact side)))
       | ((with_reducible apply CallO.go); (conv => whnf); (with_reducible apply SideD.mk); (focus (first | ((apply giveso_go (atoms4O_sem _ _ _)); (focus (first | exact rfl | (simp; done))); (focus (exact DLes.au)); (focus exact rfl); (all_goals (exact pre))))))
       | ((with_reducible first | apply DrawR.go0 | apply KerB.mk); (focus kernel_rfl))
       | (with_reducible first | apply ends_ret | apply ends_norm | apply Halt'.mk)
       | ((with_reducible apply CondD.mk) <;> intro hb <;> (try simp only [SPLT] at hb) <;> (try first | exact noB)))
     all_goals (try exact (false : Bool))
     repeat' ((conv => whnf); first | exact endR | (with_reducible first | apply And.intro | apply endsO_ret | apply endsO_norm | apply DLes.cons))
     all_goals (conv => whnf)
     exact rle_bool hs2.symm
 ·rw [if_pos g1]
  clear h2 h3
  generalize c.err = e1 at h1 g1 ⊢
  obtain ⟨k, ks, p, vs, lo, hi⟩ := c
  rw [Cond.row_mk] at h1 ⊢
  refine sem_intro (M := fun t => mem t [1000048, 1000051, 1000063]) hT hM Tryz.func23 inferInstance rfl rfl rfl rfl rfl rfl ?_
  repeat' (
   (conv => whnf)
   first
    | ((try ((with_reducible first | apply NumE.go | apply IdxE.go | apply TextE.go | apply LookE.go | apply CallE.go); (conv => whnf))); (with_reducible apply SideD.mk); (focus (first | ((try apply givesl); (focus (first | ((apply gives_go (h1)); (focus (exact DLes.au)); (focus exact rfl); (all_goals (exact pre))) | ((first | apply gives_go (checkCond4_sem _ _) | apply gives_go (atoms4Nil_sem _ _)); (focus (exact DLes.au)); (focus exact rfl); (all_goals (exact pre))))); (all_goals exact rfl)) | exact side)))
    | ((with_reducible apply CallO.go); (conv => whnf); (with_reducible apply SideD.mk); (focus (first | ((apply giveso_go (atoms4O_sem _ _ _)); (focus (first | exact rfl | (simp; done))); (focus (exact DLes.au)); (focus exact rfl); (all_goals (exact pre))))))
    | ((with_reducible first | apply DrawR.go0 | apply KerB.mk); (focus kernel_rfl))
    | (with_reducible first | apply ends_ret | apply ends_norm | apply Halt'.mk)
    | ((with_reducible apply CondD.mk) <;> intro hb <;> (try simp only [SPLT] at hb) <;> (try first | exact noB)))
  all_goals (try exact (false : Bool))
  repeat' ((conv => whnf); first | exact endR | (with_reducible first | apply And.intro | apply endsO_ret | apply endsO_norm | apply DLes.cons))
  all_goals (conv => whnf)
end Go.Proofs.YtbphihljkbdfpaaGreatDoor
namespace Go.Proofs.YtbphihljkbdfpaaGreatDoor
set_option linter.unusedSimpArgs false
set_option linter.unusedVariables false
open Go.RowKit
set_option maxRecDepth 100000
set_option maxHeartbeats 4000000
def idl21_7 : List (List Bool) := [[false, false, false, false, false], [true, false, false, false, false], [false, false, true, false, false], [true, true, false, false, false], [true, false, true, false, false], [true, true, true, false, false], [true, true, true, true, false], [true, true, true, true, true]]

theorem atoms4N1_sem (c : Cond) (h : c.acnt ≤ 100000) : Sem Tryz.prog 48 [.nil, .agg c.row] (.sl 1 6 ((c.ats []).map Cond.row)) :=
 (atoms4_sem c [] (by simpa using h)).weak (.cons (.nil 1 6) (.cons (.refl _) .nil))
theorem implies4_sem (a b : Cond) (ha : a.Txt) (hb : b.Txt) : Sem Tryz.prog 21 [.agg a.row, .agg b.row] (.tup [.bool (impliesN a b).1, .int .i64 (impliesN a b).2]) := by
 have h1 := checkCond4_sem a ha
 have h2 := checkCond4_sem b hb
 have h3 := fun h : a.err = 0 => atoms4N1_sem a (by have := (err_good ha h).few; omega)
 have h4 := fun (h : a.err = 0) (h' : b.err = 0) => atoms4O_sem b (a.ats []) (by have h1 := (err_good hb h').few; have h2 := (err_good ha h).few; have h3 := (ats_len a []).2; simp at h3 ⊢; omega)
 have h5 : a.err = 0 → b.err = 0 → (b.ats (a.ats [])).length ≤ 12 → Sem Tryz.prog 50 [.sl 0 6 [a.row], .agg b.row, .sl 0 6 ((b.ats (a.ats [])).map Cond.row)] (.bool (follB [a] b (b.ats (a.ats [])))) := fun e1 e2 h => by
  obtain ⟨⟨M, hM⟩, hbI⟩ := ats_grow b (a.ats [])
  refine follows4_sem [a] b _ h (fun c hc => ?_) (nice_ev b (err_good hb e2).nice hbI)
  obtain rfl := List.mem_singleton.1 hc
  exact nice_ev c (err_good ha e1).nice (by rw [hM]; exact In_app _ (ats_grow c []).2)
 unfold impliesN
 generalize follB [a] b (b.ats (a.ats [])) = fb at h5 ⊢
 generalize b.ats (a.ats []) = A at h4 h5 ⊢
 generalize a.ats [] = A1 at h3 h4
 generalize a.err = e1 at h1 h3 h4 h5 ⊢
 generalize b.err = e2 at h2 h4 h5 ⊢
 obtain ⟨k, ks, p, vs, lo, hi⟩ := a
 obtain ⟨k2, ks2, p2, vs2, lo2, hi2⟩ := b
 rw [Cond.row_mk] at h1 h2 h3 h4 h5 ⊢
 rw [Cond.row_mk] at h5 ⊢
 have hal : (A.map Cond.row).length = A.length := List.length_map _
 by_cases g1 : e1 = 0
 ·subst g1
  have h3 := h3 rfl
  have h4 := h4 rfl
  have h5 := h5 rfl
  rw [if_neg (by simp)]
  by_cases g2 : e2 = 0
  ·subst g2
   have h4 := h4 rfl
   have h5 := h5 rfl
   rw [if_neg (by simp)]
   by_cases h12 : 12 < A.length
   ·rw [if_pos h12]
    refine sem_intro (M := fun t => mem t [5000007, 1000048, 1000051, 1000063]) hT hM Tryz.func21 inferInstance rfl rfl rfl rfl rfl rfl ?_
    repeat' (
     (conv => whnf)
     first
      | ((with_reducible apply DrawI.at 19 idl21_7); (focus exact rfl); (focus kernel_rfl))
      | with_reducible apply ExE.go
      | ((with_reducible apply EqF.mk); (focus exact rfl))
      | with_reducible apply AndI.mk
      | with_reducible exact trivial
      | ((try ((with_reducible first | apply NumE.go | apply IdxE.go | apply TextE.go | apply LookE.go | apply CallE.go); (conv => whnf))); (with_reducible apply SideD.mk); (focus (first | ((try apply givesl); (focus (first | ((apply gives_go (h1)); (focus (exact DLes.au)); (focus exact rfl); (all_goals (exact pre))) | ((apply gives_go (h2)); (focus (exact DLes.au)); (focus exact rfl); (all_goals (exact pre))) | ((apply gives_go (h3)); (focus (exact DLes.au)); (focus exact rfl); (all_goals (exact pre))) | ((apply gives_go (atoms4N1_sem _ _)); (focus (exact DLes.au)); (focus exact rfl); (all_goals (exact pre))) | ((first | apply gives_go (checkCond4_sem _ _) | apply gives_go (atoms4Nil_sem _ _) | apply gives_go (follows4_sem _ _ _ _ _ _)); (focus (exact DLes.au)); (focus exact rfl); (all_goals (exact pre))))); (all_goals exact rfl)) | exact side)))
      | ((with_reducible apply CallO.go); (conv => whnf); (with_reducible apply SideD.mk); (focus (first | ((apply giveso_go (h4)); (focus (first | exact rfl | (simp; done))); (focus (exact DLes.au)); (focus exact rfl); (all_goals (exact pre))))))
      | ((with_reducible first | apply DrawR.go0 | apply KerB.mk); (focus kernel_rfl))
      | (with_reducible first | apply ends_ret | apply ends_norm | apply Halt'.mk)
      | ((with_reducible apply CondD.mk) <;> intro hb <;> (try simp only [SPLT] at hb) <;> (try first | exact noB)))
    all_goals (try exact (false : Bool))
    repeat' ((conv => whnf); first | exact endR | (with_reducible first | apply And.intro | apply endsO_ret | apply endsO_norm | apply DLes.cons))
    all_goals (conv => whnf)
   ·rw [if_neg h12]
    have h5 := h5 (by omega)
    refine sem_intro (M := fun t => mem t [5000007, 1000048, 1000051, 1000063]) hT hM Tryz.func21 inferInstance rfl rfl rfl rfl rfl rfl ?_
    repeat' (
     (conv => whnf)
     first
      | ((with_reducible apply DrawI.at 19 idl21_7); (focus exact rfl); (focus kernel_rfl))
      | with_reducible apply ExE.go
      | ((with_reducible apply EqF.mk); (focus exact rfl))
      | with_reducible apply AndI.mk
      | with_reducible exact trivial
      | ((try ((with_reducible first | apply NumE.go | apply IdxE.go | apply TextE.go | apply LookE.go | apply CallE.go); (conv => whnf))); (with_reducible apply SideD.mk); (focus (first | ((try apply givesl); (focus (first | ((apply gives_go (h1)); (focus (exact DLes.au)); (focus exact rfl); (all_goals (exact pre))) | ((apply gives_go (h2)); (focus (exact DLes.au)); (focus exact rfl); (all_goals (exact pre))) | ((apply gives_go (h3)); (focus (exact DLes.au)); (focus exact rfl); (all_goals (exact pre))) | ((apply gives_go (h5)); (focus (exact DLes.au)); (focus exact rfl); (all_goals (exact pre))) | ((apply gives_go (atoms4N1_sem _ _)); (focus (exact DLes.au)); (focus exact rfl); (all_goals (exact pre))) | ((first | apply gives_go (checkCond4_sem _ _) | apply gives_go (atoms4Nil_sem _ _) | apply gives_go (follows4_sem _ _ _ _ _ _)); (focus (exact DLes.au)); (focus exact rfl); (all_goals (exact pre))))); (all_goals exact rfl)) | exact side)))
      | ((with_reducible apply CallO.go); (conv => whnf); (with_reducible apply SideD.mk); (focus (first | ((apply giveso_go (h4)); (focus (first | exact rfl | (simp; done))); (focus (exact DLes.au)); (focus exact rfl); (all_goals (exact pre))))))
      | ((with_reducible first | apply DrawR.go0 | apply KerB.mk); (focus kernel_rfl))
      | (with_reducible first | apply ends_ret | apply ends_norm | apply Halt'.mk)
      | ((with_reducible apply CondD.mk) <;> intro hb <;> (try simp only [SPLT] at hb) <;> (try first | exact noB)))
    all_goals (try exact (false : Bool))
    repeat' ((conv => whnf); first | exact endR | (with_reducible first | apply And.intro | apply endsO_ret | apply endsO_norm | apply DLes.cons))
    all_goals (conv => whnf)
  ·rw [if_pos g2]
   refine sem_intro (M := fun t => mem t [5000007, 1000048, 1000051, 1000063]) hT hM Tryz.func21 inferInstance rfl rfl rfl rfl rfl rfl ?_
   repeat' (
    (conv => whnf)
    first
     | ((with_reducible apply DrawI.at 19 idl21_7); (focus exact rfl); (focus kernel_rfl))
     | with_reducible apply ExE.go
     | ((with_reducible apply EqF.mk); (focus exact rfl))
     | with_reducible apply AndI.mk
     | with_reducible exact trivial
     | ((try ((with_reducible first | apply NumE.go | apply IdxE.go | apply TextE.go | apply LookE.go | apply CallE.go); (conv => whnf))); (with_reducible apply SideD.mk); (focus (first | ((try apply givesl); (focus (first | ((apply gives_go (h1)); (focus (exact DLes.au)); (focus exact rfl); (all_goals (exact pre))) | ((apply gives_go (h2)); (focus (exact DLes.au)); (focus exact rfl); (all_goals (exact pre))) | ((apply gives_go (atoms4N1_sem _ _)); (focus (exact DLes.au)); (focus exact rfl); (all_goals (exact pre))) | ((first | apply gives_go (checkCond4_sem _ _) | apply gives_go (atoms4Nil_sem _ _) | apply gives_go (follows4_sem _ _ _ _ _ _)); (focus (exact DLes.au)); (focus exact rfl); (all_goals (exact pre))))); (all_goals exact rfl)) | exact side)))
     | ((with_reducible apply CallO.go); (conv => whnf); (with_reducible apply SideD.mk); (focus (first | ((apply giveso_go (atoms4O_sem _ _ _)); (focus (first | exact rfl | (simp; done))); (focus (exact DLes.au)); (focus exact rfl); (all_goals (exact pre))))))
     | ((with_reducible first | apply DrawR.go0 | apply KerB.mk); (focus kernel_rfl))
     | (with_reducible first | apply ends_ret | apply ends_norm | apply Halt'.mk)
     | ((with_reducible apply CondD.mk) <;> intro hb <;> (try simp only [SPLT] at hb) <;> (try first | exact noB)))
   all_goals (try exact (false : Bool))
   repeat' ((conv => whnf); first | exact endR | (with_reducible first | apply And.intro | apply endsO_ret | apply endsO_norm | apply DLes.cons))
   all_goals (conv => whnf)
 ·rw [if_pos g1]
  refine sem_intro (M := fun t => mem t [5000007, 1000048, 1000051, 1000063]) hT hM Tryz.func21 inferInstance rfl rfl rfl rfl rfl rfl ?_
  repeat' (
   (conv => whnf)
   first
    | ((with_reducible apply DrawI.at 19 idl21_7); (focus exact rfl); (focus kernel_rfl))
    | with_reducible apply ExE.go
    | ((with_reducible apply EqF.mk); (focus exact rfl))
    | with_reducible apply AndI.mk
    | with_reducible exact trivial
    | ((try ((with_reducible first | apply NumE.go | apply IdxE.go | apply TextE.go | apply LookE.go | apply CallE.go); (conv => whnf))); (with_reducible apply SideD.mk); (focus (first | ((try apply givesl); (focus (first | ((apply gives_go (h1)); (focus (exact DLes.au)); (focus exact rfl); (all_goals (exact pre))) | ((apply gives_go (atoms4N1_sem _ _)); (focus (exact DLes.au)); (focus exact rfl); (all_goals (exact pre))) | ((first | apply gives_go (checkCond4_sem _ _) | apply gives_go (atoms4Nil_sem _ _) | apply gives_go (follows4_sem _ _ _ _ _ _)); (focus (exact DLes.au)); (focus exact rfl); (all_goals (exact pre))))); (all_goals exact rfl)) | exact side)))
    | ((with_reducible apply CallO.go); (conv => whnf); (with_reducible apply SideD.mk); (focus (first | ((apply giveso_go (atoms4O_sem _ _ _)); (focus (first | exact rfl | (simp; done))); (focus (exact DLes.au)); (focus exact rfl); (all_goals (exact pre))))))
    | ((with_reducible first | apply DrawR.go0 | apply KerB.mk); (focus kernel_rfl))
    | (with_reducible first | apply ends_ret | apply ends_norm | apply Halt'.mk)
    | ((with_reducible apply CondD.mk) <;> intro hb <;> (try simp only [SPLT] at hb) <;> (try first | exact noB)))
  all_goals (try exact (false : Bool))
  repeat' ((conv => whnf); first | exact endR | (with_reducible first | apply And.intro | apply endsO_ret | apply endsO_norm | apply DLes.cons))
  all_goals (conv => whnf)
end Go.Proofs.YtbphihljkbdfpaaGreatDoor
namespace Go.Proofs.YtbphihljkbdfpaaGreatDoor
set_option linter.unusedSimpArgs false
set_option linter.unusedVariables false
open Go.RowKit
set_option maxRecDepth 100000
set_option maxHeartbeats 4000000

theorem atomsA_sem (c : Cond) (ht : c.Txt) : Sem Tryz.prog 18 [.agg c.row] (.tup [.sl 0 6 ((atomsN c).1.map Cond.row), .int .i64 (atomsN c).2]) := by
 have h1 := checkCond_sem c
 have h2 := fun h : c.err = 0 => atomsNil_sem c (by have := (err_good ht h).few; omega)
 have h3 := fun h : c.err = 0 => ats_nice c (err_good ht h).nice [] (by simp)
 have h4 := fun h : c.err = 0 => show (c.ats []).length ≤ 200 by have := (ats_len c []).2; have := (err_good ht h).few; simp at *; omega
 unfold atomsN
 generalize c.ats [] = A at h2 h3 h4 ⊢
 generalize c.err = e1 at h1 h2 h3 h4 ⊢
 obtain ⟨k, ks, p, vs, lo, hi⟩ := c
 rw [Cond.row_mk] at h1 h2 ⊢
 have hal : (A.map Cond.row).length = A.length := List.length_map _
 by_cases g1 : e1 = 0
 ·subst g1
  have h2 := h2 rfl
  have h3 := h3 rfl
  have h4 := h4 rfl
  rw [if_neg (by simp)]
  refine sem_intro (M := fun t => mem t [7, 1000048, 1000051, 1000063]) hT hM Tryz.func18 inferInstance rfl rfl rfl rfl rfl rfl ?_
  repeat' (
   (conv => whnf)
   first
    | ((try ((with_reducible first | apply NumE.go | apply IdxE.go | apply TextE.go | apply LookE.go | apply CallE.go); (conv => whnf))); (with_reducible apply SideD.mk); (focus (first | ((try apply givesl); (focus (first | ((apply gives_go (h1)); (focus (exact DLes.au)); (focus exact rfl); (all_goals (exact pre))) | ((apply gives_go (h2)); (focus (exact DLes.au)); (focus exact rfl); (all_goals (exact pre))) | ((apply gives_go (checkCond_sem _)); (focus (exact DLes.au)); (focus exact rfl); (all_goals (exact pre))) | ((first | apply gives_go (bgm_check ) | apply gives_go (atomsNil_sem _ _)); (focus (exact DLes.au)); (focus exact rfl); (all_goals (exact pre))))); (all_goals exact rfl)) | exact side)))
    | ((with_reducible apply CallO.go); (conv => whnf); (with_reducible apply SideD.mk); (focus (first | ((apply giveso_go (atomsO_sem _ _ _)); (focus (first | exact rfl | (simp; done))); (focus (exact DLes.au)); (focus exact rfl); (all_goals (exact pre))))))
    | ((with_reducible first | apply DrawR.go0 | apply KerB.mk); (focus kernel_rfl))
    | (with_reducible first | apply ends_ret | apply ends_norm | apply Halt'.mk)
    | ((with_reducible apply CondD.mk) <;> intro hb <;> (try simp only [SPLT] at hb) <;> (try first | exact noB)))
  all_goals (try exact (false : Bool))
  refine loop_go (M := fun t => mem t [7, 1000048, 1000051, 1000063]) hT hM (fun i : Nat => [(16, .int .i64 i), (5, .sl 1 6 ((A.take i).map Cond.row))]) (fun i => i ≤ A.length) (fun i => A.length - i) (0) ?_ ?_ ?_
  ·(conv => whnf)
   refine ⟨?_, by rfl⟩
   repeat' ((conv => whnf); first | exact endF | exact endF2 | with_reducible apply DLes.cons)
  ·exact Nat.zero_le _
  ·rintro i hi'
   have htl : ((A.take i).map Cond.row).length ≤ 1000 := by rw [List.length_map, List.length_take]; omega
   cases hx : A[i]? with
   | none =>
    have hm' := List.getElem?_eq_none_iff.1 hx
    rw [List.take_of_length_le hm']
    repeat' (
     (conv => whnf)
     first
      | ((try ((with_reducible first | apply NumE.go | apply IdxE.go | apply TextE.go | apply LookE.go | apply CallE.go); (conv => whnf))); (with_reducible apply SideD.mk); (focus (first | ((try apply givesl); (focus (first | ((apply gives_go (checkCond_sem _)); (focus (exact DLes.au)); (focus exact rfl); (all_goals (exact pre))) | ((first | apply gives_go (bgm_check ) | apply gives_go (atomsNil_sem _ _)); (focus (exact DLes.au)); (focus exact rfl); (all_goals (exact pre))))); (all_goals exact rfl)) | exact side)))
      | ((with_reducible apply CallO.go); (conv => whnf); (with_reducible apply SideD.mk); (focus (first | ((apply giveso_go (atomsO_sem _ _ _)); (focus (first | exact rfl | (simp; done))); (focus (exact DLes.au)); (focus exact rfl); (all_goals (exact pre))))))
      | ((with_reducible first | apply DrawR.go0 | apply KerB.mk); (focus kernel_rfl))
      | (with_reducible first | apply ends_ret | apply ends_norm | apply Halt'.mk)
      | ((with_reducible apply CondD.mk) <;> intro hb <;> (try simp only [SPLT] at hb) <;> (try first | exact noB)))
    all_goals (try exact (false : Bool))
    repeat' ((conv => whnf); first | exact endR | (with_reducible first | apply And.intro | apply endsO_ret | apply endsO_norm | apply DLes.cons))
    all_goals (conv => whnf)
   | some x =>
    have hlt := (List.getElem?_eq_some_iff.1 hx).1
    have hc := cloneCond_sem x (nice_small (n := 200) (by omega) x (h3 x (List.mem_of_getElem? hx)))
    have htk := take_at hx
    generalize A.take i = acc at htl htk ⊢
    have hcl : (acc.map Cond.row).length = acc.length := List.length_map _
    obtain ⟨k1, ks1, p1, vs1, lo1, hi1⟩ := x
    rw [Cond.row_mk] at hc
    repeat' (
     (conv => whnf)
     first
      | ((try ((with_reducible first | apply NumE.go | apply IdxE.go | apply TextE.go | apply LookE.go | apply CallE.go); (conv => whnf))); (with_reducible apply SideD.mk); (focus (first | (exact idx_row hx rfl) | ((try apply givesl); (focus (first | ((apply gives_go (hc)); (focus (exact DLes.au)); (focus exact rfl); (all_goals (exact pre))) | ((apply gives_go (checkCond_sem _)); (focus (exact DLes.au)); (focus exact rfl); (all_goals (exact pre))) | ((first | apply gives_go (bgm_check ) | apply gives_go (atomsNil_sem _ _)); (focus (exact DLes.au)); (focus exact rfl); (all_goals (exact pre))))); (all_goals exact rfl)) | exact side)))
      | ((with_reducible apply CallO.go); (conv => whnf); (with_reducible apply SideD.mk); (focus (first | ((apply giveso_go (atomsO_sem _ _ _)); (focus (first | exact rfl | (simp; done))); (focus (exact DLes.au)); (focus exact rfl); (all_goals (exact pre))))))
      | ((with_reducible first | apply DrawR.go0 | apply KerB.mk); (focus kernel_rfl))
      | (with_reducible first | apply ends_ret | apply ends_norm | apply Halt'.mk)
      | ((with_reducible apply CondD.mk) <;> intro hb <;> (try simp only [SPLT] at hb) <;> (try first | exact noB)))
    all_goals (try exact (false : Bool))
    refine ⟨i + 1, by omega, by omega, ?_⟩
    (conv => whnf)
    refine ⟨?_, by rfl⟩
    repeat' ((conv => whnf); first | exact endF | (exact DLe.of_eq (congrArg (D.sl 1 6) (by rw [htk, List.map_append, List.map_cons, List.map_nil, Cond.row_mk]))) | exact endF2 | with_reducible apply DLes.cons)
 ·rw [if_pos g1]
  refine sem_intro (M := fun t => mem t [7, 1000048, 1000051, 1000063]) hT hM Tryz.func18 inferInstance rfl rfl rfl rfl rfl rfl ?_
  repeat' (
   (conv => whnf)
   first
    | ((try ((with_reducible first | apply NumE.go | apply IdxE.go | apply TextE.go | apply LookE.go | apply CallE.go); (conv => whnf))); (with_reducible apply SideD.mk); (focus (first | ((try apply givesl); (focus (first | ((apply gives_go (h1)); (focus (exact DLes.au)); (focus exact rfl); (all_goals (exact pre))) | ((apply gives_go (checkCond_sem _)); (focus (exact DLes.au)); (focus exact rfl); (all_goals (exact pre))) | ((first | apply gives_go (bgm_check ) | apply gives_go (atomsNil_sem _ _)); (focus (exact DLes.au)); (focus exact rfl); (all_goals (exact pre))))); (all_goals exact rfl)) | exact side)))
    | ((with_reducible apply CallO.go); (conv => whnf); (with_reducible apply SideD.mk); (focus (first | ((apply giveso_go (atomsO_sem _ _ _)); (focus (first | exact rfl | (simp; done))); (focus (exact DLes.au)); (focus exact rfl); (all_goals (exact pre))))))
    | ((with_reducible first | apply DrawR.go0 | apply KerB.mk); (focus kernel_rfl))
    | (with_reducible first | apply ends_ret | apply ends_norm | apply Halt'.mk)
    | ((with_reducible apply CondD.mk) <;> intro hb <;> (try simp only [SPLT] at hb) <;> (try first | exact noB)))
  all_goals (try exact (false : Bool))
  repeat' ((conv => whnf); first | exact endR | (with_reducible first | apply And.intro | apply endsO_ret | apply endsO_norm | apply DLes.cons))
  all_goals (conv => whnf)
theorem can_sem (c : Cond) (ht : c.Txt) : Sem Tryz.prog 22 [.agg c.row] (.tup [.bool (canN c).1, .int .i64 (canN c).2]) := by
 have h1 := checkCond_sem c
 unfold canN
 by_cases g1 : c.err = 0
 ·have hG := err_good ht g1
  have h2 := formulas_sem [c] (by simp) (fun x hx => by obtain rfl := List.mem_singleton.1 hx; exact nice_small (n := 200) (by omega) _ hG.nice) (by rw [acnts_cons, acnts_nil]; have := hG.few; omega)
  have hok := fun h => form_ok (L := c.ats []) (n := 200) h c hG.nice (ats_grow c []).2
  rw [g1] at h1
  rw [if_neg (by simpa using g1)]
  unfold formsN at h2
  rw [atss_cons, atss_nil] at h2
  generalize c.ats [] = A at h2 hok ⊢
  clear g1 hG
  by_cases h12 : 12 < A.length
  ·rw [if_pos h12] at h2 ⊢
   clear hok
   obtain ⟨k, ks, p, vs, lo, hi⟩ := c
   rw [List.map_cons, List.map_nil, Cond.row_mk] at h2
   rw [Cond.row_mk] at h1 ⊢
   refine sem_intro (M := fun t => mem t [1000048, 1000051, 1000063]) hT hM Tryz.func22 inferInstance rfl rfl rfl rfl rfl rfl ?_
   repeat' (
    (conv => whnf)
    first
     | ((try ((with_reducible first | apply NumE.go | apply IdxE.go | apply TextE.go | apply LookE.go | apply CallE.go); (conv => whnf))); (with_reducible apply SideD.mk); (focus (first | ((try apply givesl); (focus (first | ((apply gives_go (h1)); (focus (exact DLes.au)); (focus exact rfl); (all_goals (exact pre))) | ((apply gives_go (h2)); (focus (exact DLes.au)); (focus exact rfl); (all_goals (exact pre))) | ((apply gives_go (checkCond_sem _)); (focus (exact DLes.au)); (focus exact rfl); (all_goals (exact pre))) | ((apply gives_go (true1_sem _ _)); (focus (exact DLes.au)); (focus exact rfl); (all_goals (exact pre))) | ((first | apply gives_go (bgm_check ) | apply gives_go (formulas_sem _ _ _ _) | apply gives_go (true2_sem _ _)); (focus (exact DLes.au)); (focus exact rfl); (all_goals (exact pre))))); (all_goals exact rfl)) | exact side)))
     | ((with_reducible first | apply DrawR.go0 | apply KerB.mk); (focus kernel_rfl))
     | (with_reducible first | apply ends_ret | apply ends_norm | apply Halt'.mk)
     | ((with_reducible apply CondD.mk) <;> intro hb <;> (try simp only [SPLT] at hb) <;> (try first | exact noB)))
   all_goals (try exact (false : Bool))
   repeat' ((conv => whnf); first | exact endR | (with_reducible first | apply And.intro | apply endsO_ret | apply endsO_norm | apply DLes.cons))
   all_goals (conv => whnf)
  ·rw [if_neg h12] at h2 ⊢
   have hT : ∀ s : Nat, Sem Tryz.prog 52 [.agg (c.form A).row, .int .i64 s] (.bool (c.tv A s)) := fun s => by
    rw [← form_tv]
    exact isTrue_sem _ (hok (by omega)) s (by omega)
   obtain ⟨N, hN, hN2⟩ : ∃ N : Nat, 2 ^ A.length = N ∧ N ≤ 4096 := ⟨_, rfl, two_pow_le (by omega)⟩
   have hw := shl_ok (many := A.length) hN hN2
   have hA64 : (A.length : Int) ≤ 64 := by omega
   obtain ⟨g, hg⟩ : ∃ g : Nat → Bool, g = fun s : Nat => c.tv A s := ⟨_, rfl⟩
   have hcan : canB c A = (List.range N).any g := by rw [← hN, hg]; rfl
   rw [hcan]
   have hTv : ∀ s : Nat, Sem Tryz.prog 52 [.agg (c.form A).row, .int .i64 s] (.bool (g s)) := fun s => by rw [hg]; exact hT s
   clear hT hg hcan hok
   rw [List.map_cons, List.map_nil, List.map_cons, List.map_nil] at h2
   dsimp only at h2
   generalize c.form A = y at h2 hTv
   obtain ⟨k, ks, p, vs, lo, hi⟩ := c
   obtain ⟨k3, a3, fs3⟩ := y
   rw [Cond.row_mk, List.map_cons, List.map_nil, Form.row_mk] at h2
   rw [Cond.row_mk] at h1 ⊢
   rw [Form.row_mk] at hTv
   refine sem_intro (M := fun t => mem t [1000048, 1000051, 1000063]) hT hM Tryz.func22 inferInstance rfl rfl rfl rfl rfl rfl ?_
   repeat' (
    (conv => whnf)
    first
     | ((try ((with_reducible first | apply NumE.go | apply IdxE.go | apply TextE.go | apply LookE.go | apply CallE.go); (conv => whnf))); (with_reducible apply SideD.mk); (focus (first | (exact ⟨by omega, hA64, hw⟩) | ((try apply givesl); (focus (first | ((apply gives_go (h1)); (focus (exact DLes.au)); (focus exact rfl); (all_goals (exact pre))) | ((apply gives_go (h2)); (focus (exact DLes.au)); (focus exact rfl); (all_goals (exact pre))) | ((apply gives_go (checkCond_sem _)); (focus (exact DLes.au)); (focus exact rfl); (all_goals (exact pre))) | ((apply gives_go (true1_sem _ _)); (focus (exact DLes.au)); (focus exact rfl); (all_goals (exact pre))) | ((first | apply gives_go (bgm_check ) | apply gives_go (formulas_sem _ _ _ _) | apply gives_go (true2_sem _ _)); (focus (exact DLes.au)); (focus exact rfl); (all_goals (exact pre))))); (all_goals exact rfl)) | exact side)))
     | ((with_reducible first | apply DrawR.go0 | apply KerB.mk); (focus kernel_rfl))
     | (with_reducible first | apply ends_ret | apply ends_norm | apply Halt'.mk)
     | ((with_reducible apply CondD.mk) <;> intro hb <;> (try simp only [SPLT] at hb) <;> (try first | exact noB)))
   all_goals (try exact (false : Bool))
   refine loop_go (M := fun t => mem t [1000048, 1000051, 1000063]) hT hM (fun s : Nat => [(26, .int .i64 s)]) (fun s => s ≤ N ∧ (List.range s).any g = false) (fun s => N - s) (0) ?_ ?_ ?_
   ·(conv => whnf)
    refine ⟨?_, by rfl⟩
    repeat' ((conv => whnf); first | exact endF | exact endF2 | with_reducible apply DLes.cons)
   ·exact ⟨Nat.zero_le _, rfl⟩
   ·rintro s ⟨hs1, hs2⟩
    have h5 := hTv s
    by_cases hlt : s < N
    ·have hyes : g s = true → (List.range N).any g = true := fun h => by
      rw [List.any_eq_true]
      exact ⟨s, List.mem_range.2 hlt, h⟩
     have hno : g s = false → (List.range (s + 1)).any g = false := fun h => by
      rw [List.range_succ, List.any_append, hs2]
      simp [h]
     generalize (List.range N).any g = r at hyes ⊢
     generalize g s = q at h5 hyes hno
     repeat' (
      (conv => whnf)
      first
       | ((try ((with_reducible first | apply NumE.go | apply IdxE.go | apply TextE.go | apply LookE.go | apply CallE.go); (conv => whnf))); (with_reducible apply SideD.mk); (focus (first | (exact ⟨by decide, rfl⟩) | ((try apply givesl); (focus (first | ((apply gives_go (h5)); (focus (exact DLes.au)); (focus exact rfl); (all_goals (exact pre))) | ((apply gives_go (checkCond_sem _)); (focus (exact DLes.au)); (focus exact rfl); (all_goals (exact pre))) | ((apply gives_go (true1_sem _ _)); (focus (exact DLes.au)); (focus exact rfl); (all_goals (exact pre))) | ((first | apply gives_go (bgm_check ) | apply gives_go (formulas_sem _ _ _ _) | apply gives_go (true2_sem _ _)); (focus (exact DLes.au)); (focus exact rfl); (all_goals (exact pre))))); (all_goals exact rfl)) | exact side)))
       | ((with_reducible first | apply DrawR.go0 | apply KerB.mk); (focus kernel_rfl))
       | (with_reducible first | apply ends_ret | apply ends_norm | apply Halt'.mk)
       | ((with_reducible apply CondD.mk) <;> intro hb <;> (try simp only [SPLT] at hb) <;> (try first | exact noB)))
     all_goals (try exact (false : Bool))
     ·repeat' ((conv => whnf); first | exact endR | (with_reducible first | apply And.intro | apply endsO_ret | apply endsO_norm | apply DLes.cons))
      all_goals (conv => whnf)
      exact rle_bool (hyes hb).symm
     ·refine ⟨s + 1, ⟨by omega, hno (by simpa using hb)⟩, by omega, ?_⟩
      (conv => whnf)
      refine ⟨?_, by rfl⟩
      repeat' ((conv => whnf); first | exact endF | exact endF2 | with_reducible apply DLes.cons)
    ·obtain rfl : s = N := by omega
     repeat' (
      (conv => whnf)
      first
       | ((try ((with_reducible first | apply NumE.go | apply IdxE.go | apply TextE.go | apply LookE.go | apply CallE.go); (conv => whnf))); (with_reducible apply SideD.mk); (focus (first | ((try apply givesl); (focus (first | ((apply gives_go (checkCond_sem _)); (focus (exact DLes.au)); (focus exact rfl); (all_goals (exact pre))) | ((apply gives_go (true1_sem _ _)); (focus (exact DLes.au)); (focus exact rfl); (all_goals (exact pre))) | ((first | apply gives_go (bgm_check ) | apply gives_go (formulas_sem _ _ _ _) | apply gives_go (true2_sem _ _)); (focus (exact DLes.au)); (focus exact rfl); (all_goals (exact pre))))); (all_goals exact rfl)) | exact side)))
       | ((with_reducible first | apply DrawR.go0 | apply KerB.mk); (focus kernel_rfl))
       | (with_reducible first | apply ends_ret | apply ends_norm | apply Halt'.mk)
       | ((with_reducible apply CondD.mk) <;> intro hb <;> (try simp only [SPLT] at hb) <;> (try first | exact noB)))
     all_goals (try exact (false : Bool))
     repeat' ((conv => whnf); first | exact endR | (with_reducible first | apply And.intro | apply endsO_ret | apply endsO_norm | apply DLes.cons))
     all_goals (conv => whnf)
     exact rle_bool hs2.symm
 ·rw [if_pos g1]
  generalize c.err = e1 at h1 g1 ⊢
  obtain ⟨k, ks, p, vs, lo, hi⟩ := c
  rw [Cond.row_mk] at h1 ⊢
  refine sem_intro (M := fun t => mem t [1000048, 1000051, 1000063]) hT hM Tryz.func22 inferInstance rfl rfl rfl rfl rfl rfl ?_
  repeat' (
   (conv => whnf)
   first
    | ((try ((with_reducible first | apply NumE.go | apply IdxE.go | apply TextE.go | apply LookE.go | apply CallE.go); (conv => whnf))); (with_reducible apply SideD.mk); (focus (first | ((try apply givesl); (focus (first | ((apply gives_go (h1)); (focus (exact DLes.au)); (focus exact rfl); (all_goals (exact pre))) | ((apply gives_go (checkCond_sem _)); (focus (exact DLes.au)); (focus exact rfl); (all_goals (exact pre))) | ((apply gives_go (true1_sem _ _)); (focus (exact DLes.au)); (focus exact rfl); (all_goals (exact pre))) | ((first | apply gives_go (bgm_check ) | apply gives_go (formulas_sem _ _ _ _) | apply gives_go (true2_sem _ _)); (focus (exact DLes.au)); (focus exact rfl); (all_goals (exact pre))))); (all_goals exact rfl)) | exact side)))
    | ((with_reducible first | apply DrawR.go0 | apply KerB.mk); (focus kernel_rfl))
    | (with_reducible first | apply ends_ret | apply ends_norm | apply Halt'.mk)
    | ((with_reducible apply CondD.mk) <;> intro hb <;> (try simp only [SPLT] at hb) <;> (try first | exact noB)))
  all_goals (try exact (false : Bool))
  repeat' ((conv => whnf); first | exact endR | (with_reducible first | apply And.intro | apply endsO_ret | apply endsO_norm | apply DLes.cons))
  all_goals (conv => whnf)
theorem implies_sem (a b : Cond) (ha : a.Txt) (hb : b.Txt) : Sem Tryz.prog 20 [.agg a.row, .agg b.row] (.tup [.bool (impliesN a b).1, .int .i64 (impliesN a b).2]) := by
 have h1 := checkCond_sem a
 have h2 := checkCond_sem b
 unfold impliesN
 by_cases g1 : a.err = 0
 ·rw [if_neg (by simpa using g1)]
  by_cases g2 : b.err = 0
  ·rw [if_neg (by simpa using g2)]
   have hGa := err_good ha g1
   have hGb := err_good hb g2
   rw [g1] at h1
   rw [g2] at h2
   clear g1 g2 ha hb
   have h3 := formulas_sem [a, b] (by simp) (fun x hx => by
    rcases List.mem_cons.1 hx with rfl | hx
    ·exact nice_small (n := 200) (by omega) _ hGa.nice
    ·obtain rfl := List.mem_singleton.1 hx
     exact nice_small (n := 200) (by omega) _ hGb.nice) (by rw [acnts_cons, acnts_cons, acnts_nil]; have := hGa.few; have := hGb.few; omega)
   unfold formsN at h3
   rw [atss_cons, atss_cons, atss_nil] at h3
   obtain ⟨⟨M, hM⟩, hbI⟩ := ats_grow b (a.ats [])
   have haI : a.In (b.ats (a.ats [])) := by rw [hM]; exact In_app _ (ats_grow a []).2
   clear hM
   generalize b.ats (a.ats []) = A at h3 hbI haI ⊢
   by_cases h12 : 12 < A.length
   ·rw [if_pos h12] at h3 ⊢
    clear hbI haI hGa hGb
    obtain ⟨k, ks, p, vs, lo, hi⟩ := a
    obtain ⟨k2, ks2, p2, vs2, lo2, hi2⟩ := b
    rw [List.map_cons, List.map_cons, List.map_nil, Cond.row_mk, Cond.row_mk] at h3
    rw [Cond.row_mk] at h1 h2 ⊢
    rw [Cond.row_mk]
    refine sem_intro (M := fun t => mem t [7, 1000048, 1000051, 1000063]) hT hM Tryz.func20 inferInstance rfl rfl rfl rfl rfl rfl ?_
    repeat' (
     (conv => whnf)
     first
      | ((try ((with_reducible first | apply NumE.go | apply IdxE.go | apply TextE.go | apply LookE.go | apply CallE.go); (conv => whnf))); (with_reducible apply SideD.mk); (focus (first | ((try apply givesl); (focus (first | ((apply gives_go (checkCond_sem _)); (focus (exact DLes.au)); (focus exact rfl); (all_goals (exact pre))) | ((first | apply gives_go (bgm_check ) | apply gives_go (formulas_sem _ _ _ _) | apply gives_go (table_sem _ _ _ _) | apply gives_go (implied_sem _ _ _)); (focus (exact DLes.au)); (focus exact rfl); (all_goals (exact pre))))); (all_goals exact rfl)) | exact side)))
      | ((with_reducible first | apply DrawR.go0 | apply KerB.mk); (focus kernel_rfl))
      | (with_reducible first | apply ends_ret | apply ends_norm | apply Halt'.mk)
      | ((with_reducible apply CondD.mk) <;> intro hb <;> (try simp only [SPLT] at hb) <;> (try first | exact noB)))
    all_goals (try exact (false : Bool))
    refine ht_frzI [14] ?_
    conv => whnf
    refine loop_go (M := fun t => mem t [7, 1000048, 1000051, 1000063]) hT hM (fun i : Nat => [(16, .int .i64 i)]) (fun i => i ≤ 2) (fun i => 2 - i) (0) ?_ ?_ ?_
    ·(conv => whnf)
     refine ⟨?_, by rfl⟩
     repeat' ((conv => whnf); first | exact endF | exact endF2 | with_reducible apply DLes.cons)
    ·exact Nat.zero_le _
    ·rintro i hi'
     rcases i with _ | _ | _ | i
     ·repeat' (
       (conv => whnf)
       first
        | ((try ((with_reducible first | apply NumE.go | apply IdxE.go | apply TextE.go | apply LookE.go | apply CallE.go); (conv => whnf))); (with_reducible apply SideD.mk); (focus (first | (exact ⟨by decide, rfl⟩) | ((try apply givesl); (focus (first | ((apply gives_go (h1)); (focus (exact DLes.au)); (focus exact rfl); (all_goals (exact pre))) | ((apply gives_go (checkCond_sem _)); (focus (exact DLes.au)); (focus exact rfl); (all_goals (exact pre))) | ((first | apply gives_go (bgm_check ) | apply gives_go (formulas_sem _ _ _ _) | apply gives_go (table_sem _ _ _ _) | apply gives_go (implied_sem _ _ _)); (focus (exact DLes.au)); (focus exact rfl); (all_goals (exact pre))))); (all_goals exact rfl)) | exact side)))
        | ((with_reducible first | apply DrawR.go0 | apply KerB.mk); (focus kernel_rfl))
        | (with_reducible first | apply ends_ret | apply ends_norm | apply Halt'.mk)
        | ((with_reducible apply CondD.mk) <;> intro hb <;> (try simp only [SPLT] at hb) <;> (try first | exact noB)))
      all_goals (try exact (false : Bool))
      refine ⟨1, by omega, by omega, ?_⟩
      (conv => whnf)
      refine ⟨?_, by rfl⟩
      repeat' ((conv => whnf); first | exact endF | exact endF2 | with_reducible apply DLes.cons)
     ·repeat' (
       (conv => whnf)
       first
        | ((try ((with_reducible first | apply NumE.go | apply IdxE.go | apply TextE.go | apply LookE.go | apply CallE.go); (conv => whnf))); (with_reducible apply SideD.mk); (focus (first | (exact ⟨by decide, rfl⟩) | ((try apply givesl); (focus (first | ((apply gives_go (h2)); (focus (exact DLes.au)); (focus exact rfl); (all_goals (exact pre))) | ((apply gives_go (checkCond_sem _)); (focus (exact DLes.au)); (focus exact rfl); (all_goals (exact pre))) | ((first | apply gives_go (bgm_check ) | apply gives_go (formulas_sem _ _ _ _) | apply gives_go (table_sem _ _ _ _) | apply gives_go (implied_sem _ _ _)); (focus (exact DLes.au)); (focus exact rfl); (all_goals (exact pre))))); (all_goals exact rfl)) | exact side)))
        | ((with_reducible first | apply DrawR.go0 | apply KerB.mk); (focus kernel_rfl))
        | (with_reducible first | apply ends_ret | apply ends_norm | apply Halt'.mk)
        | ((with_reducible apply CondD.mk) <;> intro hb <;> (try simp only [SPLT] at hb) <;> (try first | exact noB)))
      all_goals (try exact (false : Bool))
      refine ⟨2, by omega, by omega, ?_⟩
      (conv => whnf)
      refine ⟨?_, by rfl⟩
      repeat' ((conv => whnf); first | exact endF | exact endF2 | with_reducible apply DLes.cons)
     ·repeat' (
       (conv => whnf)
       first
        | ((try ((with_reducible first | apply NumE.go | apply IdxE.go | apply TextE.go | apply LookE.go | apply CallE.go); (conv => whnf))); (with_reducible apply SideD.mk); (focus (first | ((try apply givesl); (focus (first | ((apply gives_go (h3)); (focus (exact DLes.au)); (focus exact rfl); (all_goals (exact pre))) | ((apply gives_go (checkCond_sem _)); (focus (exact DLes.au)); (focus exact rfl); (all_goals (exact pre))) | ((first | apply gives_go (bgm_check ) | apply gives_go (formulas_sem _ _ _ _) | apply gives_go (table_sem _ _ _ _) | apply gives_go (implied_sem _ _ _)); (focus (exact DLes.au)); (focus exact rfl); (all_goals (exact pre))))); (all_goals exact rfl)) | exact side)))
        | ((with_reducible first | apply DrawR.go0 | apply KerB.mk); (focus kernel_rfl))
        | (with_reducible first | apply ends_ret | apply ends_norm | apply Halt'.mk)
        | ((with_reducible apply CondD.mk) <;> intro hb <;> (try simp only [SPLT] at hb) <;> (try first | exact noB)))
      all_goals (try exact (false : Bool))
      repeat' ((conv => whnf); first | exact endR | (with_reducible first | apply And.intro | apply endsO_ret | apply endsO_norm | apply DLes.cons))
      all_goals (conv => whnf)
     ·omega
   ·rw [if_neg h12] at h3 ⊢
    have hfa := form_ok (L := A) (n := 200) (by omega) a hGa.nice haI
    have hfb := form_ok (L := A) (n := 200) (by omega) b hGb.nice hbI
    have h4 : Sem Tryz.prog 45 [.agg (a.form A).row, .int .i64 A.length] (.sl 0 1 ((tabF (a.form A) A.length).map boR)) := (table_sem _ hfa A.length (by omega)).frozen
    have h5 : Sem Tryz.prog 45 [.agg (b.form A).row, .int .i64 A.length] (.sl 0 1 ((tabF (b.form A) A.length).map boR)) := (table_sem _ hfb A.length (by omega)).frozen
    have h6 : Sem Tryz.prog 46 [.sl 0 1 ((tabF (b.form A) A.length).map boR), .sl 0 1 [[.sl 0 1 ((tabF (a.form A) A.length).map boR)]]] (.bool (impB (tabF (b.form A) A.length) [tabF (a.form A) A.length])) := implied_sem _ [tabF (a.form A) A.length] fun t ht => by
     obtain rfl := List.mem_singleton.1 ht
     rw [tabF_len, tabF_len]
    have h7 : impB (tabF (b.form A) A.length) [tabF (a.form A) A.length] = follB [a] b A := imp_foll [a] b A
    rw [h7] at h6
    clear h7 hfa hfb hbI haI hGa hGb
    generalize follB [a] b A = fb at h6 ⊢
    simp only [List.map_cons, List.map_nil] at h3
    generalize tabF (a.form A) A.length = ta at h4 h6
    generalize tabF (b.form A) A.length = tb at h5 h6
    generalize a.form A = ya at h3 h4
    generalize b.form A = yb at h3 h5
    obtain ⟨k, ks, p, vs, lo, hi⟩ := a
    obtain ⟨k2, ks2, p2, vs2, lo2, hi2⟩ := b
    obtain ⟨k3, a3, fs3⟩ := ya
    obtain ⟨k4, a4, fs4⟩ := yb
    rw [Cond.row_mk, Cond.row_mk, Form.row_mk, Form.row_mk] at h3
    rw [Form.row_mk] at h4 h5
    rw [Cond.row_mk] at h1 h2 ⊢
    rw [Cond.row_mk]
    refine sem_intro (M := fun t => mem t [7, 1000048, 1000051, 1000063]) hT hM Tryz.func20 inferInstance rfl rfl rfl rfl rfl rfl ?_
    repeat' (
     (conv => whnf)
     first
      | ((try ((with_reducible first | apply NumE.go | apply IdxE.go | apply TextE.go | apply LookE.go | apply CallE.go); (conv => whnf))); (with_reducible apply SideD.mk); (focus (first | ((try apply givesl); (focus (first | ((apply gives_go (checkCond_sem _)); (focus (exact DLes.au)); (focus exact rfl); (all_goals (exact pre))) | ((first | apply gives_go (bgm_check ) | apply gives_go (formulas_sem _ _ _ _) | apply gives_go (table_sem _ _ _ _) | apply gives_go (implied_sem _ _ _)); (focus (exact DLes.au)); (focus exact rfl); (all_goals (exact pre))))); (all_goals exact rfl)) | exact side)))
      | ((with_reducible first | apply DrawR.go0 | apply KerB.mk); (focus kernel_rfl))
      | (with_reducible first | apply ends_ret | apply ends_norm | apply Halt'.mk)
      | ((with_reducible apply CondD.mk) <;> intro hb <;> (try simp only [SPLT] at hb) <;> (try first | exact noB)))
    all_goals (try exact (false : Bool))
    refine ht_frzI [14] ?_
    conv => whnf
    refine loop_go (M := fun t => mem t [7, 1000048, 1000051, 1000063]) hT hM (fun i : Nat => [(16, .int .i64 i)]) (fun i => i ≤ 2) (fun i => 2 - i) (0) ?_ ?_ ?_
    ·(conv => whnf)
     refine ⟨?_, by rfl⟩
     repeat' ((conv => whnf); first | exact endF | exact endF2 | with_reducible apply DLes.cons)
    ·exact Nat.zero_le _
    ·rintro i hi'
     rcases i with _ | _ | _ | i
     ·repeat' (
       (conv => whnf)
       first
        | ((try ((with_reducible first | apply NumE.go | apply IdxE.go | apply TextE.go | apply LookE.go | apply CallE.go); (conv => whnf))); (with_reducible apply SideD.mk); (focus (first | (exact ⟨by decide, rfl⟩) | ((try apply givesl); (focus (first | ((apply gives_go (h1)); (focus (exact DLes.au)); (focus exact rfl); (all_goals (exact pre))) | ((apply gives_go (checkCond_sem _)); (focus (exact DLes.au)); (focus exact rfl); (all_goals (exact pre))) | ((first | apply gives_go (bgm_check ) | apply gives_go (formulas_sem _ _ _ _) | apply gives_go (table_sem _ _ _ _) | apply gives_go (implied_sem _ _ _)); (focus (exact DLes.au)); (focus exact rfl); (all_goals (exact pre))))); (all_goals exact rfl)) | exact side)))
        | ((with_reducible first | apply DrawR.go0 | apply KerB.mk); (focus kernel_rfl))
        | (with_reducible first | apply ends_ret | apply ends_norm | apply Halt'.mk)
        | ((with_reducible apply CondD.mk) <;> intro hb <;> (try simp only [SPLT] at hb) <;> (try first | exact noB)))
      all_goals (try exact (false : Bool))
      refine ⟨1, by omega, by omega, ?_⟩
      (conv => whnf)
      refine ⟨?_, by rfl⟩
      repeat' ((conv => whnf); first | exact endF | exact endF2 | with_reducible apply DLes.cons)
     ·repeat' (
       (conv => whnf)
       first
        | ((try ((with_reducible first | apply NumE.go | apply IdxE.go | apply TextE.go | apply LookE.go | apply CallE.go); (conv => whnf))); (with_reducible apply SideD.mk); (focus (first | (exact ⟨by decide, rfl⟩) | ((try apply givesl); (focus (first | ((apply gives_go (h2)); (focus (exact DLes.au)); (focus exact rfl); (all_goals (exact pre))) | ((apply gives_go (checkCond_sem _)); (focus (exact DLes.au)); (focus exact rfl); (all_goals (exact pre))) | ((first | apply gives_go (bgm_check ) | apply gives_go (formulas_sem _ _ _ _) | apply gives_go (table_sem _ _ _ _) | apply gives_go (implied_sem _ _ _)); (focus (exact DLes.au)); (focus exact rfl); (all_goals (exact pre))))); (all_goals exact rfl)) | exact side)))
        | ((with_reducible first | apply DrawR.go0 | apply KerB.mk); (focus kernel_rfl))
        | (with_reducible first | apply ends_ret | apply ends_norm | apply Halt'.mk)
        | ((with_reducible apply CondD.mk) <;> intro hb <;> (try simp only [SPLT] at hb) <;> (try first | exact noB)))
      all_goals (try exact (false : Bool))
      refine ⟨2, by omega, by omega, ?_⟩
      (conv => whnf)
      refine ⟨?_, by rfl⟩
      repeat' ((conv => whnf); first | exact endF | exact endF2 | with_reducible apply DLes.cons)
     ·repeat' (
       (conv => whnf)
       first
        | ((try ((with_reducible first | apply NumE.go | apply IdxE.go | apply TextE.go | apply LookE.go | apply CallE.go); (conv => whnf))); (with_reducible apply SideD.mk); (focus (first | (exact ⟨by decide, rfl⟩) | ((try apply givesl); (focus (first | ((apply gives_go (h3)); (focus (exact DLes.au)); (focus exact rfl); (all_goals (exact pre))) | ((apply gives_go (h4)); (focus (exact DLes.au)); (focus exact rfl); (all_goals (exact pre))) | ((apply gives_go (h5)); (focus (exact DLes.au)); (focus exact rfl); (all_goals (exact pre))) | ((apply gives_go (h6)); (focus (exact DLes.au)); (focus exact rfl); (all_goals (exact pre))) | ((apply gives_go (checkCond_sem _)); (focus (exact DLes.au)); (focus exact rfl); (all_goals (exact pre))) | ((first | apply gives_go (bgm_check ) | apply gives_go (formulas_sem _ _ _ _) | apply gives_go (table_sem _ _ _ _) | apply gives_go (implied_sem _ _ _)); (focus (exact DLes.au)); (focus exact rfl); (all_goals (exact pre))))); (all_goals exact rfl)) | exact side)))
        | ((with_reducible first | apply DrawR.go0 | apply KerB.mk); (focus kernel_rfl))
        | (with_reducible first | apply ends_ret | apply ends_norm | apply Halt'.mk)
        | ((with_reducible apply CondD.mk) <;> intro hb <;> (try simp only [SPLT] at hb) <;> (try first | exact noB)))
      all_goals (try exact (false : Bool))
      repeat' ((conv => whnf); first | exact endR | (with_reducible first | apply And.intro | apply endsO_ret | apply endsO_norm | apply DLes.cons))
      all_goals (conv => whnf)
     ·omega
  ·rw [if_pos g2]
   rw [g1] at h1
   clear g1 ha hb
   generalize b.err = e2 at h2 g2 ⊢
   obtain ⟨k, ks, p, vs, lo, hi⟩ := a
   obtain ⟨k2, ks2, p2, vs2, lo2, hi2⟩ := b
   rw [Cond.row_mk] at h1 h2 ⊢
   rw [Cond.row_mk]
   refine sem_intro (M := fun t => mem t [7, 1000048, 1000051, 1000063]) hT hM Tryz.func20 inferInstance rfl rfl rfl rfl rfl rfl ?_
   repeat' (
    (conv => whnf)
    first
     | ((try ((with_reducible first | apply NumE.go | apply IdxE.go | apply TextE.go | apply LookE.go | apply CallE.go); (conv => whnf))); (with_reducible apply SideD.mk); (focus (first | ((try apply givesl); (focus (first | ((apply gives_go (checkCond_sem _)); (focus (exact DLes.au)); (focus exact rfl); (all_goals (exact pre))) | ((first | apply gives_go (bgm_check ) | apply gives_go (formulas_sem _ _ _ _) | apply gives_go (table_sem _ _ _ _) | apply gives_go (implied_sem _ _ _)); (focus (exact DLes.au)); (focus exact rfl); (all_goals (exact pre))))); (all_goals exact rfl)) | exact side)))
     | ((with_reducible first | apply DrawR.go0 | apply KerB.mk); (focus kernel_rfl))
     | (with_reducible first | apply ends_ret | apply ends_norm | apply Halt'.mk)
     | ((with_reducible apply CondD.mk) <;> intro hb <;> (try simp only [SPLT] at hb) <;> (try first | exact noB)))
   all_goals (try exact (false : Bool))
   refine ht_frzI [14] ?_
   conv => whnf
   refine loop_go (M := fun t => mem t [7, 1000048, 1000051, 1000063]) hT hM (fun i : Nat => [(16, .int .i64 i)]) (fun i => i ≤ 1) (fun i => 2 - i) (0) ?_ ?_ ?_
   ·(conv => whnf)
    refine ⟨?_, by rfl⟩
    repeat' ((conv => whnf); first | exact endF | exact endF2 | with_reducible apply DLes.cons)
   ·exact Nat.zero_le _
   ·rintro i hi'
    rcases i with _ | _ | i
    ·repeat' (
      (conv => whnf)
      first
       | ((try ((with_reducible first | apply NumE.go | apply IdxE.go | apply TextE.go | apply LookE.go | apply CallE.go); (conv => whnf))); (with_reducible apply SideD.mk); (focus (first | (exact ⟨by decide, rfl⟩) | ((try apply givesl); (focus (first | ((apply gives_go (h1)); (focus (exact DLes.au)); (focus exact rfl); (all_goals (exact pre))) | ((apply gives_go (checkCond_sem _)); (focus (exact DLes.au)); (focus exact rfl); (all_goals (exact pre))) | ((first | apply gives_go (bgm_check ) | apply gives_go (formulas_sem _ _ _ _) | apply gives_go (table_sem _ _ _ _) | apply gives_go (implied_sem _ _ _)); (focus (exact DLes.au)); (focus exact rfl); (all_goals (exact pre))))); (all_goals exact rfl)) | exact side)))
       | ((with_reducible first | apply DrawR.go0 | apply KerB.mk); (focus kernel_rfl))
       | (with_reducible first | apply ends_ret | apply ends_norm | apply Halt'.mk)
       | ((with_reducible apply CondD.mk) <;> intro hb <;> (try simp only [SPLT] at hb) <;> (try first | exact noB)))
     all_goals (try exact (false : Bool))
     refine ⟨1, by omega, by omega, ?_⟩
     (conv => whnf)
     refine ⟨?_, by rfl⟩
     repeat' ((conv => whnf); first | exact endF | exact endF2 | with_reducible apply DLes.cons)
    ·repeat' (
      (conv => whnf)
      first
       | ((try ((with_reducible first | apply NumE.go | apply IdxE.go | apply TextE.go | apply LookE.go | apply CallE.go); (conv => whnf))); (with_reducible apply SideD.mk); (focus (first | (exact ⟨by decide, rfl⟩) | ((try apply givesl); (focus (first | ((apply gives_go (h2)); (focus (exact DLes.au)); (focus exact rfl); (all_goals (exact pre))) | ((apply gives_go (checkCond_sem _)); (focus (exact DLes.au)); (focus exact rfl); (all_goals (exact pre))) | ((first | apply gives_go (bgm_check ) | apply gives_go (formulas_sem _ _ _ _) | apply gives_go (table_sem _ _ _ _) | apply gives_go (implied_sem _ _ _)); (focus (exact DLes.au)); (focus exact rfl); (all_goals (exact pre))))); (all_goals exact rfl)) | exact side)))
       | ((with_reducible first | apply DrawR.go0 | apply KerB.mk); (focus kernel_rfl))
       | (with_reducible first | apply ends_ret | apply ends_norm | apply Halt'.mk)
       | ((with_reducible apply CondD.mk) <;> intro hb <;> (try simp only [SPLT] at hb) <;> (try first | exact noB)))
     all_goals (try exact (false : Bool))
     repeat' ((conv => whnf); first | exact endR | (with_reducible first | apply And.intro | apply endsO_ret | apply endsO_norm | apply DLes.cons))
     all_goals (conv => whnf)
    ·omega
 ·rw [if_pos g1]
  clear ha hb h2
  generalize a.err = e1 at h1 g1 ⊢
  obtain ⟨k, ks, p, vs, lo, hi⟩ := a
  obtain ⟨k2, ks2, p2, vs2, lo2, hi2⟩ := b
  rw [Cond.row_mk] at h1 ⊢
  rw [Cond.row_mk]
  refine sem_intro (M := fun t => mem t [7, 1000048, 1000051, 1000063]) hT hM Tryz.func20 inferInstance rfl rfl rfl rfl rfl rfl ?_
  repeat' (
   (conv => whnf)
   first
    | ((try ((with_reducible first | apply NumE.go | apply IdxE.go | apply TextE.go | apply LookE.go | apply CallE.go); (conv => whnf))); (with_reducible apply SideD.mk); (focus (first | ((try apply givesl); (focus (first | ((apply gives_go (checkCond_sem _)); (focus (exact DLes.au)); (focus exact rfl); (all_goals (exact pre))) | ((first | apply gives_go (bgm_check ) | apply gives_go (formulas_sem _ _ _ _) | apply gives_go (table_sem _ _ _ _) | apply gives_go (implied_sem _ _ _)); (focus (exact DLes.au)); (focus exact rfl); (all_goals (exact pre))))); (all_goals exact rfl)) | exact side)))
    | ((with_reducible first | apply DrawR.go0 | apply KerB.mk); (focus kernel_rfl))
    | (with_reducible first | apply ends_ret | apply ends_norm | apply Halt'.mk)
    | ((with_reducible apply CondD.mk) <;> intro hb <;> (try simp only [SPLT] at hb) <;> (try first | exact noB)))
  all_goals (try exact (false : Bool))
  refine ht_frzI [14] ?_
  conv => whnf
  refine loop_go (M := fun t => mem t [7, 1000048, 1000051, 1000063]) hT hM (fun i : Nat => [(16, .int .i64 i)]) (fun i => i ≤ 0) (fun i => 2 - i) (0) ?_ ?_ ?_
  ·(conv => whnf)
   refine ⟨?_, by rfl⟩
   repeat' ((conv => whnf); first | exact endF | exact endF2 | with_reducible apply DLes.cons)
  ·exact Nat.zero_le _
  ·rintro i hi'
   obtain rfl : i = 0 := by omega
   repeat' (
    (conv => whnf)
    first
     | ((try ((with_reducible first | apply NumE.go | apply IdxE.go | apply TextE.go | apply LookE.go | apply CallE.go); (conv => whnf))); (with_reducible apply SideD.mk); (focus (first | (exact ⟨by decide, rfl⟩) | ((try apply givesl); (focus (first | ((apply gives_go (h1)); (focus (exact DLes.au)); (focus exact rfl); (all_goals (exact pre))) | ((apply gives_go (checkCond_sem _)); (focus (exact DLes.au)); (focus exact rfl); (all_goals (exact pre))) | ((first | apply gives_go (bgm_check ) | apply gives_go (formulas_sem _ _ _ _) | apply gives_go (table_sem _ _ _ _) | apply gives_go (implied_sem _ _ _)); (focus (exact DLes.au)); (focus exact rfl); (all_goals (exact pre))))); (all_goals exact rfl)) | exact side)))
     | ((with_reducible first | apply DrawR.go0 | apply KerB.mk); (focus kernel_rfl))
     | (with_reducible first | apply ends_ret | apply ends_norm | apply Halt'.mk)
     | ((with_reducible apply CondD.mk) <;> intro hb <;> (try simp only [SPLT] at hb) <;> (try first | exact noB)))
   all_goals (try exact (false : Bool))
   repeat' ((conv => whnf); first | exact endR | (with_reducible first | apply And.intro | apply endsO_ret | apply endsO_norm | apply DLes.cons))
   all_goals (conv => whnf)
theorem atomsN_len {c : Cond} (ht : c.Txt) : (atomsN c).1.length ≤ 200 := by
 unfold atomsN
 by_cases h : c.err = 0
 ·rw [if_neg (by simpa using h)]
  have h1 := (ats_len c []).2
  have h2 := (err_good ht h).few
  simp at h1 ⊢
  omega
 ·rw [if_pos h]
  simp
theorem law23_sem (a b : Cond) (ha : a.Txt) (hb : b.Txt) : Sem Tryz.prog 6 [.agg a.row, .agg b.row] (.bool true) := by
 have h1 := atomsA_sem a ha
 have h2 := atoms4A_sem a ha
 have h3 := implies_sem a b ha hb
 have h4 := implies4_sem a b ha hb
 have h5 := can_sem a ha
 have h6 := can4_sem a ha
 have h7 := awake4_sem
 have hlen := atomsN_len ha
 generalize atomsN a = r1 at h1 h2 hlen
 generalize impliesN a b = r2 at h3 h4
 generalize canN a = r3 at h5 h6
 obtain ⟨A, e1⟩ := r1
 obtain ⟨q2, e2⟩ := r2
 obtain ⟨q3, e3⟩ := r3
 dsimp only at h1 h2 h3 h4 h5 h6 hlen
 obtain ⟨k, ks, p, vs, lo, hi⟩ := a
 obtain ⟨k2, ks2, p2, vs2, lo2, hi2⟩ := b
 rw [Cond.row_mk] at h1 h2 h3 h4 h5 h6 ⊢
 rw [Cond.row_mk] at h3 h4 ⊢
 have hal : (A.map Cond.row).length = A.length := List.length_map _
 refine sem_intro (M := fun t => mem t [1000048, 1000051, 1000063]) hT hM Tryz.func6 inferInstance rfl rfl rfl rfl rfl rfl ?_
 repeat' (
  (conv => whnf)
  first
   | ((try ((with_reducible first | apply NumE.go | apply IdxE.go | apply TextE.go | apply LookE.go | apply CallE.go); (conv => whnf))); (with_reducible apply SideD.mk); (focus ((first | (intro hc; have hc0 := hc; (try simp only [SPLT] at hc); (try refine And.intro (by first | exact hc0 | exact ⟨hc0, hc0⟩ | exact ⟨hc0, hc0, hc0⟩) ?_)) | skip); first | ((try apply givesl); (focus (first | ((apply gives_go (h1)); (focus (exact DLes.au)); (focus exact rfl); (all_goals (exact pre))) | ((apply gives_go (h2)); (focus (exact DLes.au)); (focus exact rfl); (all_goals (exact pre))) | ((first | apply gives_go (atomsA_sem _ _) | apply gives_go (atoms4A_sem _ _) | apply gives_go (implies_sem _ _ _ _) | apply gives_go (implies4_sem _ _ _ _) | apply gives_go (can_sem _ _) | apply gives_go (can4_sem _ _) | apply gives_go (awake4_sem )); (focus (exact DLes.au)); (focus exact rfl); (all_goals (exact pre))))); (all_goals exact rfl)) | exact sideG)))
   | ((with_reducible first | apply DrawR.go0 | apply KerB.mk); (focus kernel_rfl))
   | (with_reducible first | apply ends_ret | apply ends_norm | apply Halt'.mk)
   | ((with_reducible apply CondD.mk) <;> intro hb <;> (try simp only [SPLT] at hb) <;> (try first | exact noB)))
 all_goals (try exact (false : Bool))
 refine loop_go (M := fun t => mem t [1000048, 1000051, 1000063]) hT hM (fun i : Nat => [(9, .int .i64 i)]) (fun i => i ≤ A.length) (fun i => A.length - i) (0) ?_ ?_ ?_
 ·(conv => whnf)
  refine ⟨?_, by rfl⟩
  repeat' ((conv => whnf); first | exact endF | exact endF2 | with_reducible apply DLes.cons)
 ·exact Nat.zero_le _
 ·rintro i hi'
  cases hx : A[i]? with
  | none =>
   have hm' := List.getElem?_eq_none_iff.1 hx
   repeat' (
    (conv => whnf)
    first
     | ((try ((with_reducible first | apply NumE.go | apply IdxE.go | apply TextE.go | apply LookE.go | apply CallE.go); (conv => whnf))); (with_reducible apply SideD.mk); (focus ((first | (intro hc; have hc0 := hc; (try simp only [SPLT] at hc); (try refine And.intro (by first | exact hc0 | exact ⟨hc0, hc0⟩ | exact ⟨hc0, hc0, hc0⟩) ?_)) | skip); first | ((try apply givesl); (focus (first | ((apply gives_go (h3)); (focus (exact DLes.au)); (focus exact rfl); (all_goals (exact pre))) | ((apply gives_go (h4)); (focus (exact DLes.au)); (focus exact rfl); (all_goals (exact pre))) | ((apply gives_go (h5)); (focus (exact DLes.au)); (focus exact rfl); (all_goals (exact pre))) | ((apply gives_go (h6)); (focus (exact DLes.au)); (focus exact rfl); (all_goals (exact pre))) | ((apply gives_go (h7)); (focus (exact DLes.au)); (focus exact rfl); (all_goals (exact pre))) | ((first | apply gives_go (atomsA_sem _ _) | apply gives_go (atoms4A_sem _ _) | apply gives_go (implies_sem _ _ _ _) | apply gives_go (implies4_sem _ _ _ _) | apply gives_go (can_sem _ _) | apply gives_go (can4_sem _ _) | apply gives_go (awake4_sem )); (focus (exact DLes.au)); (focus exact rfl); (all_goals (exact pre))))); (all_goals exact rfl)) | exact sideG)))
     | ((with_reducible first | apply DrawR.go0 | apply KerB.mk); (focus kernel_rfl))
     | (with_reducible first | apply ends_ret | apply ends_norm | apply Halt'.mk)
     | ((with_reducible apply CondD.mk) <;> intro hb <;> (try simp only [SPLT] at hb) <;> (try first | exact noB)))
   all_goals (try exact (false : Bool))
   repeat' ((conv => whnf); first | exact endR | (with_reducible first | apply And.intro | apply endsO_ret | apply endsO_norm | apply DLes.cons))
   all_goals (conv => whnf)
   exact rle_bool (by simp)
  | some x =>
   have hlt := (List.getElem?_eq_some_iff.1 hx).1
   have h8 := same_sem x x
   rw [(Cond.same_iff _ _).2 rfl] at h8
   obtain ⟨k1, ks1, p1, vs1, lo1, hi1⟩ := x
   rw [Cond.row_mk] at h8
   repeat' (
    (conv => whnf)
    first
     | ((try ((with_reducible first | apply NumE.go | apply IdxE.go | apply TextE.go | apply LookE.go | apply CallE.go); (conv => whnf))); (with_reducible apply SideD.mk); (focus ((first | (intro hc; have hc0 := hc; (try simp only [SPLT] at hc); (try refine And.intro (by first | exact hc0 | exact ⟨hc0, hc0⟩ | exact ⟨hc0, hc0, hc0⟩) ?_)) | skip); first | (exact idx_row hx rfl) | ((try apply givesl); (focus (first | ((apply gives_go (h8)); (focus (exact DLes.au)); (focus exact rfl); (all_goals (exact pre))) | ((first | apply gives_go (atomsA_sem _ _) | apply gives_go (atoms4A_sem _ _) | apply gives_go (implies_sem _ _ _ _) | apply gives_go (implies4_sem _ _ _ _) | apply gives_go (can_sem _ _) | apply gives_go (can4_sem _ _) | apply gives_go (awake4_sem )); (focus (exact DLes.au)); (focus exact rfl); (all_goals (exact pre))))); (all_goals exact rfl)) | exact sideG)))
     | ((with_reducible first | apply DrawR.go0 | apply KerB.mk); (focus kernel_rfl))
     | (with_reducible first | apply ends_ret | apply ends_norm | apply Halt'.mk)
     | ((with_reducible apply CondD.mk) <;> intro hb <;> (try simp only [SPLT] at hb) <;> (try first | exact noB)))
   all_goals (try exact (false : Bool))
   refine ⟨i + 1, by omega, by omega, ?_⟩
   (conv => whnf)
   refine ⟨?_, by rfl⟩
   repeat' ((conv => whnf); first | exact endF | exact endF2 | with_reducible apply DLes.cons)
end Go.Proofs.YtbphihljkbdfpaaGreatDoor
