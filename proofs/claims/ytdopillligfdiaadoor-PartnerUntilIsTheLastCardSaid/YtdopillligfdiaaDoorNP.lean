/- Agreements: the plain laws. -/
import Derived.Test.YtdopillligfdiaaDoorN4
namespace Go.Proofs.YtdopillligfdiaaDoor
set_option linter.unusedSimpArgs false
set_option linter.unusedVariables false
open Go.RowKit

theorem fs_neg : ∀ l : List Int, firstSign (l.map (- ·)) = - firstSign l
  | [] => rfl
  | d :: r => by
    simp only [List.map_cons, firstSign]
    rw [fs_neg r]
    split <;> split <;> (try split) <;> (try split) <;> omega
theorem fs_01 : ∀ l : List Int, firstSign l = -1 ∨ firstSign l = 0 ∨ firstSign l = 1
  | [] => .inr (.inl rfl)
  | d :: r => by
    simp only [firstSign]
    split
    · exact .inl rfl
    · split
      · exact .inr (.inr rfl)
      · exact fs_01 r
theorem fs_add : ∀ x y : List Int, x.length = y.length → firstSign x ≤ 0 → firstSign y ≤ 0 →
    firstSign (List.zipWith (· + ·) x y) < 0 ∨ (firstSign x = 0 ∧ firstSign y = 0 ∧ firstSign (List.zipWith (· + ·) x y) = 0)
  | [], [], _, _, _ => .inr ⟨rfl, rfl, rfl⟩
  | d :: r, e :: s, hl, hx, hy => by
    simp only [List.zipWith_cons_cons, firstSign] at *
    by_cases hd : d < 0
    · rw [if_pos hd] at hx
      by_cases he : e < 0
      · rw [if_pos (by omega : d + e < 0)]; left; omega
      · rw [if_neg he] at hy
        by_cases he0 : 0 < e
        · rw [if_pos he0] at hy; omega
        · rw [if_pos (by omega : d + e < 0)]; left; omega
    · by_cases hd0 : 0 < d
      · rw [if_neg hd, if_pos hd0] at hx; omega
      · by_cases he : e < 0
        · rw [if_pos (by omega : d + e < 0)]; left; omega
        · by_cases he0 : 0 < e
          · rw [if_neg he, if_pos he0] at hy; omega
          · rw [if_neg hd, if_neg hd0] at hx
            rw [if_neg he, if_neg he0] at hy
            rw [if_neg hd, if_neg hd0, if_neg he, if_neg he0, if_neg (by omega : ¬ d + e < 0), if_neg (by omega : ¬ 0 < d + e)]
            exact fs_add r s (by simpa using hl) hx hy
theorem betterN_neg (a b : Agr) : betterN b a = - betterN a b := by
  unfold betterN
  rw [← fs_neg]
  simp only [List.map_cons, List.map_nil]
  congr 1
  simp only [List.cons.injEq, and_true]
  omega
theorem betterN_01 (a b : Agr) : betterN a b = -1 ∨ betterN a b = 0 ∨ betterN a b = 1 := fs_01 _
theorem betterN_trans (a b c : Agr) (h1 : betterN a b ≤ 0) (h2 : betterN b c ≤ 0) : betterN a c < 0 ∨ (betterN a b = 0 ∧ betterN b c = 0 ∧ betterN a c = 0) := by
  have := fs_add [flagN (!b.msg.isEmpty) - flagN (!a.msg.isEmpty), flagN (!b.ver.isEmpty) - flagN (!a.ver.isEmpty), b.first - a.first, a.last - b.last]
    [flagN (!c.msg.isEmpty) - flagN (!b.msg.isEmpty), flagN (!c.ver.isEmpty) - flagN (!b.ver.isEmpty), c.first - b.first, b.last - c.last] rfl h1 h2
  have e : List.zipWith (· + ·) [flagN (!b.msg.isEmpty) - flagN (!a.msg.isEmpty), flagN (!b.ver.isEmpty) - flagN (!a.ver.isEmpty), b.first - a.first, a.last - b.last]
    [flagN (!c.msg.isEmpty) - flagN (!b.msg.isEmpty), flagN (!c.ver.isEmpty) - flagN (!b.ver.isEmpty), c.first - b.first, b.last - c.last] =
    [flagN (!c.msg.isEmpty) - flagN (!a.msg.isEmpty), flagN (!c.ver.isEmpty) - flagN (!a.ver.isEmpty), c.first - a.first, a.last - c.last] := by
    simp only [List.zipWith_cons_cons, List.zipWith_nil_left, List.cons.injEq, and_true]
    omega
  rw [e] at this
  exact this
theorem betterN_self (a : Agr) : betterN a a = 0 := by
  have := betterN_neg a a
  omega
/-- Is the agreement a better than the one with the number b, or is there none yet? -/
def beats (l : List Agr) (a : Agr) (b : Int) : Bool := decide (b < 0) || match l[b.toNat]? with
  | some x => decide (betterN a x < 0)
  | none => false
/-- The best one among the first k. -/
def findAt (l : List Agr) (c : Cas) : Nat → Int
  | 0 => -1
  | k + 1 => match l[k]? with
    | none => findAt l c k
    | some a => if (appliesB a c && beats l a (findAt l c k)) = true then (k : Int) else findAt l c k
def findN (l : List Agr) (c : Cas) : Int := findAt l c l.length
theorem findAt_bd (l : List Agr) (c : Cas) : ∀ k, k ≤ l.length → -1 ≤ findAt l c k ∧ findAt l c k < k
  | 0, _ => ⟨by simp [findAt], by simp [findAt]⟩
  | k + 1, h => by
    obtain ⟨h1, h2⟩ := findAt_bd l c k (by omega)
    simp only [findAt, List.getElem?_eq_getElem (show k < l.length by omega)]
    split <;> omega
theorem findAt_next {l : List Agr} {c : Cas} {k : Nat} {a : Agr} (h : l[k]? = some a) : findAt l c (k + 1) = if (appliesB a c && beats l a (findAt l c k)) = true then (k : Int) else findAt l c k := by
  simp only [findAt, h]
/-- What is found among the first k. -/
structure Best (l : List Agr) (P : Agr → Prop) (k : Nat) (b : Int) : Prop where
  none : b < 0 → ∀ i a, i < k → l[i]? = some a → ¬ P a
  some : 0 ≤ b → b.toNat < k ∧ ∃ x, l[b.toNat]? = some x ∧ P x ∧ ∀ i a, i < k → l[i]? = some a → P a → 0 ≤ betterN a x ∧ (betterN a x = 0 → b.toNat ≤ i)
theorem find_best (l : List Agr) (c : Cas) : ∀ k, k ≤ l.length → Best l (fun a => appliesB a c = true) k (findAt l c k)
  | 0, _ => ⟨fun _ i a h => by omega, fun h => by simp [findAt] at h⟩
  | k + 1, hk => by
    have ih := find_best l c k (by omega)
    obtain ⟨a, ha⟩ : ∃ a, l[k]? = some a := ⟨l[k], List.getElem?_eq_getElem (by omega)⟩
    rw [findAt_next ha]
    by_cases hap : appliesB a c = true
    · by_cases hb : findAt l c k < 0
      · have hno := ih.none hb
        rw [if_pos (by simp [hap, beats, hb])]
        refine ⟨fun h => by omega, fun _ => ⟨by omega, a, by simpa using ha, hap, fun i x hi hx hpx => ?_⟩⟩
        by_cases hik : i = k
        · subst hik
          rw [ha] at hx
          cases hx
          rw [betterN_self]
          simp
        · exact absurd hpx (hno i x (by omega) hx)
      · obtain ⟨h1, x, hx, hpx, hbest⟩ := ih.some (by omega)
        by_cases hlt : betterN a x < 0
        · rw [if_pos (by simp [hap, beats, hx, hlt])]
          refine ⟨fun h => by omega, fun _ => ⟨by omega, a, by simpa using ha, hap, fun i y hi hy hpy => ?_⟩⟩
          by_cases hik : i = k
          · subst hik
            rw [ha] at hy
            cases hy
            rw [betterN_self]
            simp
          · obtain ⟨g1, _⟩ := hbest i y (by omega) hy hpy
            have h2 := betterN_neg y x
            have h3 := betterN_trans a x y (by omega) (by omega)
            have h4 := betterN_neg a y
            exact ⟨by omega, fun h0 => by omega⟩
        · rw [if_neg (by simp [hap, beats, hx, hlt, hb])]
          refine ⟨fun h => absurd h hb, fun _ => ⟨by omega, x, hx, hpx, fun i y hi hy hpy => ?_⟩⟩
          by_cases hik : i = k
          · subst hik
            rw [ha] at hy
            cases hy
            exact ⟨by omega, fun _ => by omega⟩
          · exact hbest i y (by omega) hy hpy
    · rw [if_neg (by simp [hap])]
      refine ⟨fun h i x hi hx => ?_, fun h => ?_⟩
      · by_cases hik : i = k
        · subst hik
          rw [ha] at hx
          cases hx
          exact hap
        · exact ih.none h i x (by omega) hx
      · obtain ⟨h1, x, hx, hpx, hbest⟩ := ih.some h
        refine ⟨by omega, x, hx, hpx, fun i y hi hy hpy => ?_⟩
        by_cases hik : i = k
        · subst hik
          rw [ha] at hy
          cases hy
          exact absurd hpy hap
        · exact hbest i y (by omega) hy hpy
/-- Only one number is the best. -/
theorem Best.eq {l : List Agr} {P : Agr → Prop} {b b' : Int} (h : Best l P l.length b) (h' : Best l P l.length b') (h1 : -1 ≤ b) (h1' : -1 ≤ b') : b = b' := by
  by_cases hb : b < 0
  · by_cases hb' : b' < 0
    · omega
    · obtain ⟨g1, x, g2, g3, _⟩ := h'.some (by omega)
      exact absurd g3 (h.none hb _ _ g1 g2)
  · by_cases hb' : b' < 0
    · obtain ⟨g1, x, g2, g3, _⟩ := h.some (by omega)
      exact absurd g3 (h'.none hb' _ _ g1 g2)
    · obtain ⟨g1, x, g2, g3, g4⟩ := h.some (by omega)
      obtain ⟨k1, y, k2, k3, k4⟩ := h'.some (by omega)
      obtain ⟨p1, p2⟩ := g4 _ _ k1 k2 k3
      obtain ⟨q1, q2⟩ := k4 _ _ g1 g2 g3
      have hn := betterN_neg x y
      have e1 := p2 (by omega)
      have e2 := q2 (by omega)
      omega
def isPartnerN (l : List Par) (n : Str) : Bool := l.any fun p => p.name == n
def agrFaults (p : List Par) : List Agr → Int
  | [] => 0
  | a :: r => if (!isPartnerN p a.fr || !isPartnerN p a.tgt) = true then 5 else if ownFaultN a ≠ 0 then ownFaultN a else agrFaults p r
def agreementsN (p : List Par) (l : List Agr) : Int := if partnersN p ≠ 0 then partnersN p else if 200 < l.length then 2 else agrFaults p l
def askedN (p : List Par) (l : List Agr) (c : Cas) : Int := if agreementsN p l ≠ 0 then agreementsN p l else if caseFaultN c ≠ 0 then caseFaultN c else if (!isPartnerN p c.fr || !isPartnerN p c.tgt) = true then 5 else 0
def FindN (p : List Par) (l : List Agr) (c : Cas) : Int × Bool × Int := if askedN p l c ≠ 0 then (0, false, askedN p l c) else (max (findN l c) 0, decide (0 ≤ findN l c), 0)
def Cas.of (c : Cas) (fr tgt : Str) : Cas := ⟨fr, tgt, c.msg, c.ver, c.day, c.test⟩
def Cas.on (c : Cas) (d : Int) : Cas := ⟨c.fr, c.tgt, c.msg, c.ver, d, c.test⟩
def FoundN (p : List Par) (l : List Agr) (x y : Adr) (c : Cas) : Int × Bool × Int :=
  if agreementsN p l ≠ 0 then (0, false, agreementsN p l) else if adrFaultN x ≠ 0 then (0, false, adrFaultN x) else if adrFaultN y ≠ 0 then (0, false, adrFaultN y) else if (!c.fr.isEmpty || !c.tgt.isEmpty) = true then (0, false, 3)
  else if restFaultN c ≠ 0 then (0, false, restFaultN c) else if ((partnerOfN p x).isEmpty || (partnerOfN p y).isEmpty || partnerOfN p x == partnerOfN p y) = true then (0, false, 0)
  else (max (findN l (c.of (partnerOfN p x) (partnerOfN p y))) 0, decide (0 ≤ findN l (c.of (partnerOfN p x) (partnerOfN p y))), 0)
theorem agrFaults_at {p : List Par} {l : List Agr} {k : Nat} {a : Agr} (h : l[k]? = some a) : agrFaults p (l.drop k) = if (!isPartnerN p a.fr || !isPartnerN p a.tgt) = true then 5 else if ownFaultN a ≠ 0 then ownFaultN a else agrFaults p (l.drop (k + 1)) := by
  rw [drop_at h]
  rfl
theorem agrFaults_ok {p : List Par} : ∀ {l : List Agr}, agrFaults p l = 0 → ∀ a ∈ l, ownFaultN a = 0
  | [], _, a, ha => by cases ha
  | b :: r, h, a, ha => by
    unfold agrFaults at h
    split at h
    · cases h
    · split at h
      · rename_i h1 h2; exact absurd h h2
      · rename_i h1 h2
        rcases List.mem_cons.1 ha with rfl | ha
        · simpa using h2
        · exact agrFaults_ok h a ha
theorem agreementsN_ok {p : List Par} {l : List Agr} (h : agreementsN p l = 0) : partnersN p = 0 ∧ l.length ≤ 200 ∧ agrFaults p l = 0 := by
  unfold agreementsN at h
  split at h
  · rename_i h1; exact absurd h h1
  · split at h
    · cases h
    · exact ⟨by simp_all, by omega, h⟩
theorem askedN_ok {p : List Par} {l : List Agr} {c : Cas} (h : askedN p l c = 0) : agreementsN p l = 0 ∧ caseFaultN c = 0 := by
  unfold askedN at h
  split at h
  · rename_i h1; exact absurd h h1
  · split at h
    · rename_i h1 h2; exact absurd h h2
    · exact ⟨by simp_all, by simp_all⟩
end Go.Proofs.YtdopillligfdiaaDoor
