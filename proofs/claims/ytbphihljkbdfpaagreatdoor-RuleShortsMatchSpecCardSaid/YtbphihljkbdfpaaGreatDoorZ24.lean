/- Conditions: their sizes, their atoms, and short ones (plain). Conditions: their atoms, and short ones (plain). The atoms of a condition: the program's and the reference's (walks). -/
import Derived.Test.YtbphihljkbdfpaaGreatDoorZ17
import Derived.Test.YtbphihljkbdfpaaGreatDoorZ21
import Derived.Test.YtbphihljkbdfpaaGreatDoorZ23
namespace Go.Proofs.YtbphihljkbdfpaaGreatDoor
set_option linter.unusedSimpArgs false
set_option linter.unusedVariables false
open Go.RowKit

def Cond.kind : Cond → Int
 | .mk k _ _ _ _ _ => k
def Cond.kids : Cond → List Cond
 | .mk _ ks _ _ _ _ => ks
mutual
/-- How many parts a condition has. -/
def Cond.size : Cond → Nat
 | .mk _ ks _ _ _ _ => Cond.sizes ks + 1
def Cond.sizes : List Cond → Nat
 | [] => 0
 | c :: l => c.size + Cond.sizes l
end
theorem size_mk (k : Int) (ks : List Cond) (p : Str) (vs : List Str) (lo hi : Int) : (Cond.mk k ks p vs lo hi).size = Cond.sizes ks + 1 := by rw [Cond.size]
theorem sizes_cons (c : Cond) (l : List Cond) : Cond.sizes (c :: l) = c.size + Cond.sizes l := by rw [Cond.sizes]
theorem size_pos (c : Cond) : 1 ≤ c.size := by obtain ⟨k, ks, p, vs, lo, hi⟩ := c; rw [size_mk]; omega
theorem len_sizes : ∀ l : List Cond, l.length ≤ Cond.sizes l
 | [] => Nat.zero_le _
 | c :: l => by rw [sizes_cons, List.length_cons]; have := len_sizes l; have := size_pos c; omega
theorem mem_sizes : ∀ {l : List Cond} {x : Cond}, x ∈ l → x.size ≤ Cond.sizes l
 | c :: l, x, h => by
  rw [sizes_cons]
  rcases List.mem_cons.1 h with rfl | h
  ·omega
  ·have := mem_sizes h; omega
attribute [irreducible] Cond.size Cond.sizes
/-- What every part of a condition is like. -/
inductive Cond.Nice (n : Nat) : Cond → Prop where
 | mk {k : Int} {ks : List Cond} {p : Str} {vs : List Str} {lo hi : Int} (h1 : ks.length ≤ n) (h2 : vs.length ≤ 1000) (hp : p.length ≤ 9223372036854775807) (hv : ∀ v ∈ vs, v.length ≤ 9223372036854775807)
   (hk : k = 1 ∨ k = 2 ∨ k = 3 → ks ≠ []) (h4 : ∀ x ∈ ks, x.Nice n) : (Cond.mk k ks p vs lo hi).Nice n
theorem nice_mono {m n : Nat} (h : m ≤ n) (c : Cond) : c.Nice m → c.Nice n := by
 induction c using Cond.ind with
 | h k ks p vs lo hi ih =>
  rintro ⟨h1, h2, hp, hv, hk, h4⟩
  exact .mk (by omega) h2 hp hv hk fun x hx => ih x hx (h4 x hx)
theorem nice_small {n : Nat} (hn : n ≤ 1000) (c : Cond) : c.Nice n → c.Small := by
 induction c using Cond.ind with
 | h k ks p vs lo hi ih =>
  rintro ⟨h1, h2, hp, hv, hk, h4⟩
  exact .mk (by omega) h2 fun x hx => ih x hx (h4 x hx)
theorem nice_txt {n : Nat} (c : Cond) : c.Nice n → c.Txt := by
 induction c using Cond.ind with
 | h k ks p vs lo hi ih =>
  rintro ⟨h1, h2, hp, hv, hk, h4⟩
  exact .mk hp hv fun x hx => ih x hx (h4 x hx)
/-- What is right has few parts, and each part has what it needs. -/
theorem own_ok {k : Int} {nk : Nat} {p : Str} {vs : List Str} {lo hi : Int} (h : ownErr k nk p vs lo hi = 0) : vs.length ≤ 1000 ∧ (k = 1 ∨ k = 2 ∨ k = 3 → nk ≠ 0) := by
 unfold ownErr at h
 split at h
 ·cases h
 ·split at h
  ·cases h
  ·rename_i hf
   have hf : formB k nk p vs.length lo hi = false := by simpa using hf
   unfold formB usesOfB overB at hf
   simp only [Bool.or_eq_false_iff] at hf
   obtain ⟨⟨⟨⟨_, _⟩, h3⟩, _⟩, h5⟩ := hf
   refine ⟨?_, fun hk hn => ?_⟩
   ·by_cases h5 : k = 5
    ·subst h5
     rw [if_neg (by decide)] at h
     split at h
     ·rename_i hh
      omega
     ·rw [if_pos rfl] at h
      unfold valuesErr at h
      split at h
      ·cases h
      ·split at h
       ·cases h
       ·omega
    ·have : decide (0 < vs.length) = false := by
      rw [Bool.and_eq_false_iff] at h3
      rcases h3 with h3 | h3
      ·simp at h3; exact absurd h3 h5
      ·exact h3
     simp at this
     simp [this]
   ·subst hn
    rcases hk with rfl | rfl | rfl <;> simp at h5
theorem chks_ok {d : Int} : ∀ (l : List Cond), (∀ c ∈ l, ∀ n, 0 ≤ n → n ≤ 200 → c.Txt → (c.chk d n).2 = 0 → (c.chk d n).1 = n + c.size ∧ c.Nice 200) → ∀ n, 0 ≤ n → n ≤ 200 → (∀ c ∈ l, c.Txt) → (Cond.chks l d n).2 = 0 → (Cond.chks l d n).1 = n + Cond.sizes l ∧ ∀ c ∈ l, c.Nice 200
 | [], _, n, _, _, _, _ => by rw [chks_nil]; unfold Cond.sizes; exact ⟨by simp, by simp⟩
 | c :: l, hc, n, hn0, hn, ht, h => by
  have hat := chks_at (l := c :: l) (i := 0) (c := c) rfl d n
  rw [List.drop_zero] at hat
  rw [hat] at h ⊢
  by_cases he : (c.chk d n).2 = 0
  ·rw [if_neg (by simp [he])] at h ⊢
   obtain ⟨h1, h2⟩ := hc c (by simp) n hn0 hn (ht c (by simp)) he
   have hb := (chk_bd c d n hn).2 he
   rw [show List.drop (0 + 1) (c :: l) = l from rfl] at h ⊢
   obtain ⟨h3, h4⟩ := chks_ok l (fun x hx => hc x (by simp [hx])) _ (by rw [h1]; omega) hb (fun x hx => ht x (by simp [hx])) h
   refine ⟨by rw [h3, h1, sizes_cons]; omega, fun x hx => ?_⟩
   rcases List.mem_cons.1 hx with rfl | hx
   ·exact h2
   ·exact h4 x hx
  ·rw [if_pos he] at h
   exact absurd h he
theorem chk_ok (c : Cond) : ∀ d n : Int, n ≤ 200 → 0 ≤ n → c.Txt → (c.chk d n).2 = 0 → (c.chk d n).1 = n + c.size ∧ c.Nice 200 := by
 induction c using Cond.ind with
 | h k ks p vs lo hi ih =>
  intro d n hn hn0 ht h
  obtain ⟨hp, hv, hks⟩ := ht
  have hb := chk_bd (.mk k ks p vs lo hi) d n hn
  rw [chk_mk] at h hb ⊢
  split at h
  ·cases h
  ·rename_i h1
   rw [if_neg h1] at hb ⊢
   split at h
   ·rename_i he
    exact absurd h he
   ·rename_i he
    rw [if_neg he] at hb ⊢
    obtain ⟨h2, h3⟩ := chks_ok (d := d + 1) ks (fun c hc m h0 hm ht hh => ih c hc (d + 1) m hm h0 ht hh) (n + 1) (by omega) (by omega) hks h
    obtain ⟨o1, o2⟩ := own_ok (by simpa using he)
    have hl := len_sizes ks
    have h200 := hb.2 h
    refine ⟨by rw [h2, size_mk]; omega, .mk (by omega) o1 hp hv (fun hk e => o2 hk (by rw [e]; rfl)) h3⟩
end Go.Proofs.YtbphihljkbdfpaaGreatDoor
namespace Go.Proofs.YtbphihljkbdfpaaGreatDoor
set_option linter.unusedSimpArgs false
set_option linter.unusedVariables false
open Go.RowKit

def isAtomB (k : Int) : Bool := !(k == 1) && !(k == 2) && !(k == 3)
mutual
/-- How many atoms a condition has, each as often as it stands there. -/
def Cond.acnt : Cond → Nat
 | .mk k ks _ _ _ _ => if isAtomB k = true then 1 else Cond.acnts ks
def Cond.acnts : List Cond → Nat
 | [] => 0
 | c :: l => c.acnt + Cond.acnts l
end
theorem acnt_mk (k : Int) (ks : List Cond) (p : Str) (vs : List Str) (lo hi : Int) : (Cond.mk k ks p vs lo hi).acnt = if isAtomB k = true then 1 else Cond.acnts ks := by rw [Cond.acnt]
theorem acnts_nil : Cond.acnts [] = 0 := by rw [Cond.acnts]
theorem acnts_cons (c : Cond) (l : List Cond) : Cond.acnts (c :: l) = c.acnt + Cond.acnts l := by rw [Cond.acnts]
attribute [irreducible] Cond.acnt Cond.acnts
theorem acnts_app : ∀ (a b : List Cond), Cond.acnts (a ++ b) = Cond.acnts a + Cond.acnts b
 | [], b => by rw [List.nil_append, acnts_nil, Nat.zero_add]
 | c :: a, b => by rw [List.cons_append, acnts_cons, acnts_cons, acnts_app a b, Nat.add_assoc]
theorem acnts_mem : ∀ {l : List Cond} {x : Cond}, x ∈ l → x.acnt ≤ Cond.acnts l
 | c :: l, x, h => by
  rw [acnts_cons]
  rcases List.mem_cons.1 h with rfl | h
  ·omega
  ·have := acnts_mem h; omega
mutual
/-- The atoms of a condition behind others, each once. -/
def Cond.ats : Cond → List Cond → List Cond
 | .mk k ks p vs lo hi, out => if isAtomB k = true then (if hasC out (.mk k ks p vs lo hi) = true then out else out ++ [.mk k ks p vs lo hi]) else Cond.atss ks out
def Cond.atss : List Cond → List Cond → List Cond
 | [], out => out
 | c :: l, out => Cond.atss l (c.ats out)
end
theorem ats_mk (k : Int) (ks : List Cond) (p : Str) (vs : List Str) (lo hi : Int) (out : List Cond) : (Cond.mk k ks p vs lo hi).ats out = if isAtomB k = true then (if hasC out (.mk k ks p vs lo hi) = true then out else out ++ [.mk k ks p vs lo hi]) else Cond.atss ks out := by rw [Cond.ats]
theorem atss_nil (out : List Cond) : Cond.atss [] out = out := by rw [Cond.atss]
theorem atss_cons (c : Cond) (l out : List Cond) : Cond.atss (c :: l) out = Cond.atss l (c.ats out) := by rw [Cond.atss]
attribute [irreducible] Cond.ats Cond.atss
theorem atss_at {l : List Cond} {i : Nat} {c : Cond} (h : l[i]? = some c) (out : List Cond) : Cond.atss (l.drop i) out = Cond.atss (l.drop (i + 1)) (c.ats out) := by
 rw [List.drop_eq_getElem_cons (List.getElem?_eq_some_iff.1 h).1, (List.getElem?_eq_some_iff.1 h).2, atss_cons]
theorem atss_len : ∀ (l : List Cond), (∀ c ∈ l, ∀ out, out.length ≤ (c.ats out).length ∧ (c.ats out).length ≤ out.length + c.acnt) → ∀ out, out.length ≤ (Cond.atss l out).length ∧ (Cond.atss l out).length ≤ out.length + Cond.acnts l
 | [], _, out => by rw [atss_nil]; rw [acnts_nil]; omega
 | c :: l, h, out => by
  obtain ⟨h1, h2⟩ := h c (by simp) out
  obtain ⟨h3, h4⟩ := atss_len l (fun x hx => h x (by simp [hx])) (c.ats out)
  rw [atss_cons, acnts_cons]
  omega
theorem ats_len (c : Cond) : ∀ out, out.length ≤ (c.ats out).length ∧ (c.ats out).length ≤ out.length + c.acnt := by
 induction c using Cond.ind with
 | h k ks p vs lo hi ih =>
  intro out
  rw [ats_mk, acnt_mk]
  split
  ·split
   ·omega
   ·simp
  ·have := atss_len ks ih out
   omega
/-- Each condition whose parts have what they need has an atom. -/
theorem ats_ne {n : Nat} (c : Cond) : c.Nice n → ∀ out, c.ats out ≠ [] := by
 induction c using Cond.ind with
 | h k ks p vs lo hi ih =>
  rintro ⟨_, _, _, _, hk, h4⟩ out
  rw [ats_mk]
  split
  ·split
   ·rename_i hh
    intro e
    rw [e] at hh
    simp [hasC] at hh
   ·simp
  ·rename_i ha
   have hk' : k = 1 ∨ k = 2 ∨ k = 3 := by
    simp only [isAtomB, Bool.not_eq_true, Bool.and_eq_false_iff, Bool.not_eq_false', beq_iff_eq] at ha
    rcases ha with (h | h) | h
    ·exact .inl h
    ·exact .inr (.inl h)
    ·exact .inr (.inr h)
   cases ks with
   | nil => exact absurd rfl (hk hk')
   | cons x l =>
    have h1 := ih x (by simp) (h4 x (by simp)) out
    have h2 := (atss_len l (fun c _ o => ats_len c o) (x.ats out)).1
    rw [atss_cons]
    intro e
    rw [e, List.length_nil] at h2
    have := List.length_pos_iff.2 h1
    omega
/-- All atoms are like the parts. -/
theorem atss_nice {n : Nat} : ∀ (l : List Cond), (∀ c ∈ l, ∀ out, (∀ x ∈ out, x.Nice n) → ∀ x ∈ c.ats out, x.Nice n) → ∀ out, (∀ x ∈ out, x.Nice n) → ∀ x ∈ Cond.atss l out, x.Nice n
 | [], _, out, h => by rw [atss_nil]; exact h
 | c :: l, hc, out, h => by
  rw [atss_cons]
  exact atss_nice l (fun x hx => hc x (by simp [hx])) _ (hc c (by simp) out h)
theorem ats_nice {n : Nat} (c : Cond) : c.Nice n → ∀ out, (∀ x ∈ out, x.Nice n) → ∀ x ∈ c.ats out, x.Nice n := by
 induction c using Cond.ind with
 | h k ks p vs lo hi ih =>
  intro hn out ho
  have hn' := hn
  obtain ⟨_, _, _, _, hk, h4⟩ := hn'
  rw [ats_mk]
  split
  ·split
   ·exact ho
   ·intro x hx
    rcases List.mem_append.1 hx with hx | hx
    ·exact ho x hx
    ·obtain rfl := List.mem_singleton.1 hx
     exact hn
  ·exact atss_nice ks (fun c hc => ih c hc (h4 c hc)) out ho
/-- What stands in a list, and is put there if it isn't yet. -/
def addC (acc : List Cond) (y : Cond) : List Cond := if hasC acc y = true then acc else acc ++ [y]
def innerC (k : Int) (x : Cond) : List Cond := if x.kind = k then x.kids else [x]
def flatC (k : Int) : List Cond → List Cond → List Cond
 | [], acc => acc
 | x :: l, acc => flatC k l ((innerC k x).foldl addC acc)
/-- An All, or Any, whose conditions are short. -/
def severalE (k : Int) (F A : List Cond) (cb : Bool) (p : Str) (vs : List Str) (lo hi : Int) : Cond :=
 if F.length = 1 then F.headD noneC else if cb = false then .mk k F p vs lo hi else
  if k = 1 then notC (anyC [A.headD noneC, notC (A.headD noneC)]) else anyC [A.headD noneC, notC (A.headD noneC)]
def severalC (k : Int) (ks : List Cond) (p : Str) (vs : List Str) (lo hi : Int) : Cond :=
 severalE k (flatC k ks []) ((Cond.mk k (flatC k ks []) p vs lo hi).ats []) (contraC (flatC k ks [])) p vs lo hi
def endC (k : Int) (ks : List Cond) (p : Str) (vs : List Str) (lo hi : Int) : Cond :=
 if k = 3 ∧ (ks.headD noneC).kind = 3 then (ks.headD noneC).kids.headD noneC else if k = 1 ∨ k = 2 then severalC k ks p vs lo hi else .mk k ks p vs lo hi
mutual
def Cond.short : Cond → Cond
 | .mk k ks p vs lo hi => endC k (Cond.shorts ks) p vs lo hi
def Cond.shorts : List Cond → List Cond
 | [] => []
 | c :: l => c.short :: Cond.shorts l
end
theorem shorts_map : ∀ l : List Cond, Cond.shorts l = l.map Cond.short
 | [] => by rw [Cond.shorts]; rfl
 | c :: l => by rw [Cond.shorts, shorts_map l]; rfl
theorem short_mk (k : Int) (ks : List Cond) (p : Str) (vs : List Str) (lo hi : Int) : (Cond.mk k ks p vs lo hi).short = endC k (ks.map Cond.short) p vs lo hi := by rw [Cond.short, shorts_map]
attribute [irreducible] Cond.short
theorem foldl_add {n : Nat} : ∀ (l acc : List Cond), (∀ x ∈ acc, x.Nice n) → (∀ x ∈ l, x.Nice n) → (∀ x ∈ l.foldl addC acc, x.Nice n) ∧ (l.foldl addC acc).length ≤ acc.length + l.length ∧ acc.length ≤ (l.foldl addC acc).length ∧ (l ≠ [] → l.foldl addC acc ≠ [])
 | [], acc, h, _ => ⟨h, by simp, by simp, fun h => absurd rfl h⟩
 | y :: l, acc, h, hl => by
  have key : (∀ x ∈ addC acc y, x.Nice n) ∧ (addC acc y).length ≤ acc.length + 1 ∧ acc.length ≤ (addC acc y).length ∧ addC acc y ≠ [] := by
   unfold addC
   split
   ·rename_i hh
    refine ⟨h, by omega, by omega, fun e => ?_⟩
    rw [e] at hh
    simp [hasC] at hh
   ·refine ⟨fun x hx => ?_, by simp, by simp, by simp⟩
    rcases List.mem_append.1 hx with hx | hx
    ·exact h x hx
    ·obtain rfl := List.mem_singleton.1 hx
     exact hl _ (by simp)
  obtain ⟨k1, k2, k3, k4⟩ := key
  obtain ⟨g1, g2, g3, _⟩ := foldl_add l (addC acc y) k1 (fun x hx => hl x (by simp [hx]))
  rw [List.foldl_cons, List.length_cons]
  refine ⟨g1, by omega, by omega, fun _ e => ?_⟩
  rw [e, List.length_nil] at g3
  have := List.length_pos_iff.2 k4
  omega
theorem nice_kids {n : Nat} {c : Cond} (h : c.Nice n) : c.kids.length ≤ n ∧ (∀ x ∈ c.kids, x.Nice n) ∧ (c.kind = 1 ∨ c.kind = 2 ∨ c.kind = 3 → c.kids ≠ []) := by
 obtain ⟨h1, _, _, _, hk, h4⟩ := h
 exact ⟨h1, h4, hk⟩
theorem inner_nice {n : Nat} {k : Int} {x : Cond} (hk : k = 1 ∨ k = 2) (h : x.Nice n) (hn : 1 ≤ n) : (∀ y ∈ innerC k x, y.Nice n) ∧ (innerC k x).length ≤ n ∧ innerC k x ≠ [] := by
 obtain ⟨h1, h2, h3⟩ := nice_kids h
 unfold innerC
 split
 ·rename_i e
  exact ⟨h2, h1, h3 (by omega)⟩
 ·exact ⟨by simp [h], by simp; omega, by simp⟩
theorem flat_ok {k : Int} (hk : k = 1 ∨ k = 2) {n : Nat} : ∀ l : List Cond, (∀ x ∈ l, x.short.Nice x.size) → Cond.sizes l ≤ n → ∀ acc, (∀ y ∈ acc, y.Nice n) → (∀ y ∈ flatC k (l.map Cond.short) acc, y.Nice n) ∧ (flatC k (l.map Cond.short) acc).length ≤ acc.length + Cond.sizes l ∧ acc.length ≤ (flatC k (l.map Cond.short) acc).length ∧ (l ≠ [] → flatC k (l.map Cond.short) acc ≠ [])
 | [], _, _, acc, h => by unfold Cond.sizes; exact ⟨h, by simp [flatC], by simp [flatC], fun h => absurd rfl h⟩
 | x :: l, hx, hn, acc, h => by
  rw [sizes_cons] at hn
  obtain ⟨i1, i2, i3⟩ := inner_nice hk (hx x (by simp)) (size_pos x)
  obtain ⟨f1, f2, f3, f4⟩ := foldl_add (n := n) (innerC k x.short) acc h (fun y hy => nice_mono (by omega) y (i1 y hy))
  obtain ⟨g1, g2, g3, _⟩ := flat_ok hk l (fun y hy => hx y (by simp [hy])) (by omega) ((innerC k x.short).foldl addC acc) f1
  rw [List.map_cons, flatC, sizes_cons]
  refine ⟨g1, by omega, by omega, fun _ e => ?_⟩
  rw [e, List.length_nil] at g3
  have := List.length_pos_iff.2 (f4 i3)
  omega
theorem head_nice {n : Nat} {l : List Cond} (h : l ≠ []) (hl : ∀ x ∈ l, x.Nice n) : (l.headD noneC).Nice n := by
 cases l with
 | nil => exact absurd rfl h
 | cons x l => exact hl x (by simp)
/-- What a short condition is like. -/
theorem short_nice (c : Cond) : ∀ n, c.Nice n → c.short.Nice c.size := by
 induction c using Cond.ind with
 | h k ks p vs lo hi ih =>
  rintro n ⟨h1, h2, hp, hv, hk, h4⟩
  have hs : ∀ x ∈ ks, x.short.Nice x.size := fun x hx => ih x hx n (h4 x hx)
  have hl := len_sizes ks
  rw [short_mk, size_mk, endC]
  split
  ·rename_i hh
   have hne : ks ≠ [] := hk (by omega)
   cases ks with
   | nil => exact absurd rfl hne
   | cons x l =>
    have hx := hs x (by simp)
    obtain ⟨g1, g2, g3⟩ := nice_kids hx
    have hle := mem_sizes (l := x :: l) (x := x) (by simp)
    refine nice_mono (m := x.size) (by omega) _ ?_
    exact head_nice (g3 (by have := hh.2; simp at this; omega)) g2
  ·split
   ·rename_i hk12
    have hne : ks ≠ [] := hk (by omega)
    obtain ⟨f1, f2, f3, f4⟩ := flat_ok hk12 (n := Cond.sizes ks + 1) ks hs (by omega) [] (by simp)
    have f4 := f4 hne
    rw [severalC, severalE]
    generalize flatC k (ks.map Cond.short) [] = F at f1 f2 f3 f4
    have big : (Cond.mk k F p vs lo hi).Nice (Cond.sizes ks + 1) := .mk (by simp at f2; omega) h2 hp hv (fun _ => f4) f1
    split
    ·exact head_nice f4 f1
    ·split
     ·exact big
     ·have ha := head_nice (ats_ne _ big []) (ats_nice _ big [] (by simp))
      generalize ((Cond.mk k F p vs lo hi).ats []).headD noneC = a at ha
      have hks : 1 ≤ Cond.sizes ks := by have := List.length_pos_iff.2 hne; omega
      have hna : (notC a).Nice (Cond.sizes ks + 1) := .mk (by simp) (by simp) (by simp) (by simp) (by simp) (by simpa using ha)
      have hany : (anyC [a, notC a]).Nice (Cond.sizes ks + 1) := .mk (by simp; omega) (by simp) (by simp) (by simp) (by simp) (by simp [ha, hna])
      split
      ·exact .mk (by simp) (by simp) (by simp) (by simp) (by simp) (by simpa using hany)
      ·exact hany
   ·refine .mk (by simp; omega) h2 hp hv (fun hk' => by simp; exact hk hk') fun y hy => ?_
    obtain ⟨x, hx, rfl⟩ := List.mem_map.1 hy
    have := mem_sizes hx
    exact nice_mono (by omega) _ (hs x hx)
theorem kinds {k : Int} (ha : ¬ isAtomB k = true) : k = 1 ∨ k = 2 ∨ k = 3 := by
 simp only [isAtomB, Bool.not_eq_true, Bool.and_eq_false_iff, Bool.not_eq_false', beq_iff_eq] at ha
 rcases ha with (h | h) | h
 ·exact .inl h
 ·exact .inr (.inl h)
 ·exact .inr (.inr h)
theorem acnt_pos {n : Nat} (c : Cond) : c.Nice n → 1 ≤ c.acnt := by
 induction c using Cond.ind with
 | h k ks p vs lo hi ih =>
  rintro ⟨_, _, _, _, hk, h4⟩
  rw [acnt_mk]
  split
  ·omega
  ·rename_i ha
   cases ks with
   | nil => exact absurd rfl (hk (kinds ha))
   | cons x l =>
    have := ih x (by simp) (h4 x (by simp))
    rw [acnts_cons]
    omega
theorem acnts_len {n : Nat} : ∀ l : List Cond, (∀ x ∈ l, x.Nice n) → l.length ≤ Cond.acnts l
 | [], _ => Nat.zero_le _
 | c :: l, h => by
  have h1 := acnt_pos c (h c (by simp))
  have h2 := acnts_len l fun x hx => h x (by simp [hx])
  rw [acnts_cons, List.length_cons]
  omega
theorem inner_acnt {k : Int} (hk : k = 1 ∨ k = 2) (x : Cond) : Cond.acnts (innerC k x) = x.acnt := by
 obtain ⟨k', ks, p, vs, lo, hi⟩ := x
 unfold innerC
 split
 ·rename_i e
  have e : k' = k := e
  subst e
  rw [acnt_mk, if_neg (by rcases hk with rfl | rfl <;> decide)]
  rfl
 ·rw [acnts_cons, acnts_nil, Nat.add_zero]
theorem foldl_acnt : ∀ (l acc : List Cond), Cond.acnts (l.foldl addC acc) ≤ Cond.acnts acc + Cond.acnts l
 | [], acc => by simp
 | y :: l, acc => by
  have h := foldl_acnt l (addC acc y)
  have : Cond.acnts (addC acc y) ≤ Cond.acnts acc + y.acnt := by
   unfold addC
   split
   ·omega
   ·rw [acnts_app, acnts_cons, acnts_nil]; omega
  rw [List.foldl_cons, acnts_cons]
  omega
theorem flat_acnt {k : Int} (hk : k = 1 ∨ k = 2) : ∀ (l acc : List Cond), Cond.acnts (flatC k l acc) ≤ Cond.acnts acc + Cond.acnts l
 | [], acc => by rw [acnts_nil]; exact Nat.le_refl _
 | x :: l, acc => by
  have h := flat_acnt hk l ((innerC k x).foldl addC acc)
  have h2 := foldl_acnt (innerC k x) acc
  rw [inner_acnt hk] at h2
  rw [flatC, acnts_cons]
  omega
theorem map_acnt : ∀ l : List Cond, (∀ x ∈ l, x.short.acnt ≤ x.acnt) → Cond.acnts (l.map Cond.short) ≤ Cond.acnts l
 | [], _ => by simp
 | x :: l, h => by
  have h1 := h x (by simp)
  have h2 := map_acnt l fun y hy => h y (by simp [hy])
  rw [List.map_cons, acnts_cons, acnts_cons]
  omega
theorem atss_atom : ∀ (l : List Cond), (∀ c ∈ l, ∀ out, (∀ x ∈ out, isAtomB x.kind = true) → ∀ x ∈ c.ats out, isAtomB x.kind = true) → ∀ out, (∀ x ∈ out, isAtomB x.kind = true) → ∀ x ∈ Cond.atss l out, isAtomB x.kind = true
 | [], _, out, h => by rw [atss_nil]; exact h
 | c :: l, hc, out, h => by
  rw [atss_cons]
  exact atss_atom l (fun x hx => hc x (by simp [hx])) _ (hc c (by simp) out h)
theorem ats_atom (c : Cond) : ∀ out, (∀ x ∈ out, isAtomB x.kind = true) → ∀ x ∈ c.ats out, isAtomB x.kind = true := by
 induction c using Cond.ind with
 | h k ks p vs lo hi ih =>
  intro out ho
  rw [ats_mk]
  split
  ·rename_i ha
   split
   ·exact ho
   ·intro x hx
    rcases List.mem_append.1 hx with hx | hx
    ·exact ho x hx
    ·obtain rfl := List.mem_singleton.1 hx
     exact ha
  ·exact atss_atom ks ih out ho
theorem head_mem {l : List Cond} (h : l ≠ []) : l.headD noneC ∈ l := by
 cases l with
 | nil => exact absurd rfl h
 | cons x l => simp
/-- A short condition has no more atoms. -/
theorem short_acnt (c : Cond) : ∀ n, c.Nice n → c.short.acnt ≤ c.acnt := by
 induction c using Cond.ind with
 | h k ks p vs lo hi ih =>
  intro n hn
  have hn' := hn
  obtain ⟨h1, h2, hp, hv, hk, h4⟩ := hn'
  have hs : ∀ x ∈ ks, x.short.acnt ≤ x.acnt := fun x hx => ih x hx n (h4 x hx)
  have hN : ∀ x ∈ ks, x.short.Nice x.size := fun x hx => short_nice x n (h4 x hx)
  have hm := map_acnt ks hs
  rw [short_mk, endC]
  split
  ·rename_i hh
   have hk3 := hh.1
   subst hk3
   rw [acnt_mk, if_neg (by decide)]
   cases ks with
   | nil => exact absurd rfl (hk (by omega))
   | cons x l =>
    obtain ⟨g1, g2, g3⟩ := nice_kids (hN x (by simp))
    have hk3 : x.short.kind = 3 := hh.2
    have g3 := g3 (by omega)
    rw [List.map_cons, acnts_cons] at hm
    show (x.short.kids.headD noneC).acnt ≤ _
    generalize x.short = y at g3 hk3 hm
    obtain ⟨k', ks', p', vs', lo', hi'⟩ := y
    have hk3 : k' = 3 := hk3
    subst hk3
    rw [acnt_mk, if_neg (by decide)] at hm
    have := acnts_mem (head_mem g3)
    show (ks'.headD noneC).acnt ≤ _
    have this : (ks'.headD noneC).acnt ≤ Cond.acnts ks' := this
    omega
  ·split
   ·rename_i hk12
    have hne : ks ≠ [] := hk (by omega)
    have hf := flat_acnt hk12 (ks.map Cond.short) []
    rw [acnts_nil, Nat.zero_add] at hf
    obtain ⟨f1, f2, f3, f4⟩ := flat_ok hk12 (n := Cond.sizes ks + 1) ks hN (by omega) [] (by simp)
    have f4 := f4 hne
    rw [acnt_mk, if_neg (by rcases hk12 with rfl | rfl <;> decide), severalC, severalE]
    generalize flatC k (ks.map Cond.short) [] = F at hf f1 f4 f2
    have big : (Cond.mk k F p vs lo hi).Nice (Cond.sizes ks + 1) := .mk (by simp at f2; omega) h2 hp hv (fun _ => f4) f1
    split
    ·have := acnts_mem (head_mem f4)
     omega
    ·rename_i hof
     have hlen : 2 ≤ F.length := by
      have := List.length_pos_iff.2 f4
      omega
     have h2a := acnts_len F f1
     split
     ·rw [acnt_mk, if_neg (by rcases hk12 with rfl | rfl <;> decide)]
      omega
     ·have ha := ats_atom (.mk k F p vs lo hi) [] (by simp) _ (head_mem (ats_ne _ big []))
      generalize ((Cond.mk k F p vs lo hi).ats []).headD noneC = a at ha
      have ha1 : a.acnt = 1 := by
       obtain ⟨k', ks', p', vs', lo', hi'⟩ := a
       rw [acnt_mk]
       exact if_pos ha
      have hany : (anyC [a, notC a]).acnt = 2 := by
       rw [anyC, acnt_mk, if_neg (by decide), acnts_cons, acnts_cons, acnts_nil, notC, acnt_mk, if_neg (by decide), acnts_cons, acnts_nil, ha1]
      split
      ·rw [notC, acnt_mk, if_neg (by decide), acnts_cons, acnts_nil, hany]
       omega
      ·omega
   ·rw [acnt_mk, acnt_mk]
    split
    ·omega
    ·exact hm
end Go.Proofs.YtbphihljkbdfpaaGreatDoor
namespace Go.Proofs.YtbphihljkbdfpaaGreatDoor
set_option linter.unusedSimpArgs false
set_option linter.unusedVariables false
open Go.RowKit
set_option maxRecDepth 100000
set_option maxHeartbeats 4000000

theorem isAtom_sem (k : Int) (rows : List (List D)) (p : Str) (vs : List (List D)) (lo hi : Int) : Sem Tryz.prog 75 [.agg [.int .i64 k, .sl 0 6 rows, .str p, .sl 0 1 vs, .int .i64 lo, .int .i64 hi]] (.bool (isAtomB k)) := by
 refine sem_intro (M := fun t => mem t [1000048, 1000051, 1000063]) hT hM Tryz.func75 inferInstance rfl rfl rfl rfl rfl rfl ?_
 repeat' (
  (conv => whnf)
  first
   | ((try ((with_reducible first | apply NumE.go | apply IdxE.go | apply TextE.go | apply LookE.go | apply CallE.go); (conv => whnf))); (with_reducible apply SideD.mk); (focus ((first | (intro hc; have hc0 := hc; (try simp only [SPLT] at hc); (try refine And.intro (by first | exact hc0 | exact ⟨hc0, hc0⟩ | exact ⟨hc0, hc0, hc0⟩) ?_)) | skip); first | exact sideG)))
   | ((with_reducible first | apply DrawR.go0 | apply KerB.mk); (focus kernel_rfl))
   | (with_reducible first | apply ends_ret | apply ends_norm | apply Halt'.mk)
   | ((with_reducible apply CondD.mk) <;> intro hb <;> (try simp only [SPLT] at hb) <;> (try first | exact noB)))
 all_goals (try exact (false : Bool))
 repeat' ((conv => whnf); first | exact endR | (with_reducible first | apply And.intro | apply endsO_ret | apply endsO_norm | apply DLes.cons))
 all_goals (conv => whnf)
theorem isAtom4_sem (k : Int) (rows : List (List D)) (p : Str) (vs : List (List D)) (lo hi : Int) : Sem Tryz.prog 66 [.agg [.int .i64 k, .sl 0 6 rows, .str p, .sl 0 1 vs, .int .i64 lo, .int .i64 hi]] (.bool (isAtomB k)) := by
 refine sem_intro (M := fun t => mem t [1000048, 1000051, 1000063]) hT hM Tryz.func66 inferInstance rfl rfl rfl rfl rfl rfl ?_
 repeat' (
  (conv => whnf)
  first
   | ((try ((with_reducible first | apply NumE.go | apply IdxE.go | apply TextE.go | apply LookE.go | apply CallE.go); (conv => whnf))); (with_reducible apply SideD.mk); (focus ((first | (intro hc; have hc0 := hc; (try simp only [SPLT] at hc); (try refine And.intro (by first | exact hc0 | exact ⟨hc0, hc0⟩ | exact ⟨hc0, hc0, hc0⟩) ?_)) | skip); first | exact sideG)))
   | ((with_reducible first | apply DrawR.go0 | apply KerB.mk); (focus kernel_rfl))
   | (with_reducible first | apply ends_ret | apply ends_norm | apply Halt'.mk)
   | ((with_reducible apply CondD.mk) <;> intro hb <;> (try simp only [SPLT] at hb) <;> (try first | exact noB)))
 all_goals (try exact (false : Bool))
 repeat' ((conv => whnf); first | exact endR | (with_reducible first | apply And.intro | apply endsO_ret | apply endsO_norm | apply DLes.cons))
 all_goals (conv => whnf)
theorem atoms_sem (c : Cond) : ∀ out : List Cond, out.length + c.acnt ≤ 100000 → Sem Tryz.prog 51 [.sl 1 6 (out.map Cond.row), .agg c.row] (.sl 1 6 ((c.ats out).map Cond.row)) := by
 induction c using Cond.ind with
 | h k ks p vs lo hi ih =>
  intro out hn
  have h1 := isAtom_sem k (ks.map Cond.row) p (vs.map fun s => [.str s]) lo hi
  have h2 := has_sem out (.mk k ks p vs lo hi)
  rw [Cond.row_mk] at h2
  have hll : (ks.map Cond.row).length = ks.length := List.length_map _
  have hol : (out.map Cond.row).length = out.length := List.length_map _
  rw [acnt_mk] at hn
  rw [Cond.row_mk]
  refine sem_lenA 1 1 rfl rfl rfl fun hks => ?_
  rw [List.length_map] at hks
  rw [← Cond.row_mk]
  have hr := ats_mk k ks p vs lo hi out
  generalize (Cond.mk k ks p vs lo hi).ats out = r at hr ⊢
  generalize hasC out (.mk k ks p vs lo hi) = b at h2 hr
  generalize isAtomB k = q at h1 hr hn
  rw [Cond.row_mk]
  refine sem_intro (M := fun t => mem t [6, 1000048, 1000051, 1000063]) hT hM Tryz.func51 inferInstance rfl rfl rfl rfl rfl rfl ?_
  repeat' (
   (conv => whnf)
   first
    | ((try ((with_reducible first | apply NumE.go | apply IdxE.go | apply TextE.go | apply LookE.go | apply CallE.go); (conv => whnf))); (with_reducible apply SideD.mk); (focus (first | ((try apply givesl); (focus (first | ((apply gives_go (h1)); (focus (exact DLes.au)); (focus exact rfl); (all_goals (exact pre))) | ((apply gives_go (h2)); (focus (exact DLes.au)); (focus exact rfl); (all_goals (exact pre))) | ((apply gives_go (has_sem _ _)); (focus (exact DLes.au)); (focus exact rfl); (all_goals (exact pre))) | ((first | apply gives_go (isAtom_sem _ _ _ _ _ _) | apply gives_go (atomsNil_sem _ _) | apply gives_go (hasNil_sem _)); (focus (exact DLes.au)); (focus exact rfl); (all_goals (exact pre))))); (all_goals exact rfl)) | exact side)))
    | ((with_reducible apply CallO.go); (conv => whnf); (with_reducible apply SideD.mk); (focus (first | ((apply giveso_go (atomsO_sem _ _ _)); (focus (first | exact rfl | (simp; done))); (focus (exact DLes.au)); (focus exact rfl); (all_goals (exact pre))))))
    | ((with_reducible first | apply DrawR.go0 | apply KerB.mk); (focus kernel_rfl))
    | (with_reducible first | apply ends_ret | apply ends_norm | apply Halt'.mk)
    | ((with_reducible apply CondD.mk) <;> intro hb <;> (try simp only [SPLT] at hb) <;> (try first | exact noB)))
  all_goals (try exact (false : Bool))
  ·rw [if_neg (by simp_all)] at hr
   refine loop_go (M := fun t => mem t [6, 1000048, 1000051, 1000063]) hT hM (fun x : Nat × List Cond => [(0, .sl 1 6 (x.2.map Cond.row)), (13, .int .i64 x.1)]) (fun x => x.1 ≤ ks.length ∧ x.2.length + Cond.acnts (ks.drop x.1) ≤ 100000 ∧ Cond.atss (ks.drop x.1) x.2 = r) (fun x => ks.length - x.1) ((0, out)) ?_ ?_ ?_
   ·(conv => whnf)
    refine ⟨?_, by rfl⟩
    repeat' ((conv => whnf); first | exact endF | exact endF2 | with_reducible apply DLes.cons)
   ·exact ⟨Nat.zero_le _, by rw [if_neg (by simp_all)] at hn; simp; omega, hr.symm⟩
   ·rintro ⟨i, acc⟩ ⟨hi, hm, hv⟩
    dsimp only at hi hm hv ⊢
    cases hx : ks[i]? with
    | none =>
     have hm' := List.getElem?_eq_none_iff.1 hx
     rw [List.drop_of_length_le hm', atss_nil] at hv
     subst hv
     repeat' (
      (conv => whnf)
      first
       | ((try ((with_reducible first | apply NumE.go | apply IdxE.go | apply TextE.go | apply LookE.go | apply CallE.go); (conv => whnf))); (with_reducible apply SideD.mk); (focus (first | ((try apply givesl); (focus (first | ((apply gives_go (has_sem _ _)); (focus (exact DLes.au)); (focus exact rfl); (all_goals (exact pre))) | ((first | apply gives_go (isAtom_sem _ _ _ _ _ _) | apply gives_go (atomsNil_sem _ _) | apply gives_go (hasNil_sem _)); (focus (exact DLes.au)); (focus exact rfl); (all_goals (exact pre))))); (all_goals exact rfl)) | exact side)))
       | ((with_reducible apply CallO.go); (conv => whnf); (with_reducible apply SideD.mk); (focus (first | ((apply giveso_go (atomsO_sem _ _ _)); (focus (first | exact rfl | (simp; done))); (focus (exact DLes.au)); (focus exact rfl); (all_goals (exact pre))))))
       | ((with_reducible first | apply DrawR.go0 | apply KerB.mk); (focus kernel_rfl))
       | (with_reducible first | apply ends_ret | apply ends_norm | apply Halt'.mk)
       | ((with_reducible apply CondD.mk) <;> intro hb <;> (try simp only [SPLT] at hb) <;> (try first | exact noB)))
     all_goals (try exact (false : Bool))
     repeat' ((conv => whnf); first | exact endR | (with_reducible first | apply And.intro | apply endsO_ret | apply endsO_norm | apply DLes.cons))
     all_goals (conv => whnf)
    | some x =>
     have hlt := (List.getElem?_eq_some_iff.1 hx).1
     rw [atss_at hx] at hv
     rw [List.drop_eq_getElem_cons hlt, (List.getElem?_eq_some_iff.1 hx).2, acnts_cons] at hm
     have ih' := SemO.of (ih x (List.mem_of_getElem? hx) acc (by omega))
     have hl2 := ats_len x acc
     generalize x.ats acc = acc2 at ih' hv hl2
     obtain ⟨k1, ks1, p1, vs1, lo1, hi1⟩ := x
     rw [Cond.row_mk] at ih'
     repeat' (
      (conv => whnf)
      first
       | ((try ((with_reducible first | apply NumE.go | apply IdxE.go | apply TextE.go | apply LookE.go | apply CallE.go); (conv => whnf))); (with_reducible apply SideD.mk); (focus (first | (exact idx_row hx rfl) | ((try apply givesl); (focus (first | ((apply gives_go (has_sem _ _)); (focus (exact DLes.au)); (focus exact rfl); (all_goals (exact pre))) | ((first | apply gives_go (isAtom_sem _ _ _ _ _ _) | apply gives_go (atomsNil_sem _ _) | apply gives_go (hasNil_sem _)); (focus (exact DLes.au)); (focus exact rfl); (all_goals (exact pre))))); (all_goals exact rfl)) | exact side)))
       | ((with_reducible apply CallO.go); (conv => whnf); (with_reducible apply SideD.mk); (focus (first | ((apply giveso_go (ih')); (focus (first | exact rfl | (simp; done))); (focus (exact DLes.au)); (focus exact rfl); (all_goals (exact pre))))))
       | ((with_reducible first | apply DrawR.go0 | apply KerB.mk); (focus kernel_rfl))
       | (with_reducible first | apply ends_ret | apply ends_norm | apply Halt'.mk)
       | ((with_reducible apply CondD.mk) <;> intro hb <;> (try simp only [SPLT] at hb) <;> (try first | exact noB)))
     all_goals (try exact (false : Bool))
     refine ⟨(i + 1, acc2), ⟨by dsimp only; omega, by dsimp only; omega, hv⟩, by dsimp only; omega, ?_⟩
     (conv => whnf)
     refine ⟨?_, by rfl⟩
     repeat' ((conv => whnf); first | exact endF | exact endF2 | with_reducible apply DLes.cons)
  ·rw [if_pos (by simp_all), if_pos (by simp_all)] at hr
   subst hr
   repeat' ((conv => whnf); first | exact endR | (with_reducible first | apply And.intro | apply endsO_ret | apply endsO_norm | apply DLes.cons))
   all_goals (conv => whnf)
  ·rw [if_pos (by simp_all), if_neg (by simp_all)] at hr
   subst hr
   repeat' ((conv => whnf); first | exact endR | (with_reducible first | apply And.intro | apply endsO_ret | apply endsO_norm | apply DLes.cons))
   all_goals (conv => whnf)
   refine rle_sl ?_
   rw [List.map_append, List.map_cons, List.map_nil, Cond.row_mk]
theorem atomsNil_sem (c : Cond) (hn : c.acnt ≤ 100000) : Sem Tryz.prog 51 [.nil, .agg c.row] (.sl 0 6 ((c.ats []).map Cond.row)) := by
 obtain ⟨k, ks, p, vs, lo, hi⟩ := c
 have h1 := isAtom_sem k (ks.map Cond.row) p (vs.map fun s => [.str s]) lo hi
 have h2 := hasNil_sem (.mk k ks p vs lo hi)
 rw [Cond.row_mk] at h2
 have hll : (ks.map Cond.row).length = ks.length := List.length_map _
 rw [acnt_mk] at hn
 rw [Cond.row_mk]
 refine sem_lenA 1 1 rfl rfl rfl fun hks => ?_
 rw [List.length_map] at hks
 rw [← Cond.row_mk]
 have hr := ats_mk k ks p vs lo hi []
 rw [show hasC [] (.mk k ks p vs lo hi) = false from rfl] at hr
 generalize (Cond.mk k ks p vs lo hi).ats [] = r at hr ⊢
 generalize isAtomB k = q at h1 hr hn
 rw [Cond.row_mk]
 refine sem_intro (M := fun t => mem t [6, 1000048, 1000051, 1000063]) hT hM Tryz.func51 inferInstance rfl rfl rfl rfl rfl rfl ?_
 repeat' (
  (conv => whnf)
  first
   | ((try ((with_reducible first | apply NumE.go | apply IdxE.go | apply TextE.go | apply LookE.go | apply CallE.go); (conv => whnf))); (with_reducible apply SideD.mk); (focus (first | ((try apply givesl); (focus (first | ((apply gives_go (h1)); (focus (exact DLes.au)); (focus exact rfl); (all_goals (exact pre))) | ((apply gives_go (h2)); (focus (exact DLes.au)); (focus exact rfl); (all_goals (exact pre))) | ((apply gives_go (has_sem _ _)); (focus (exact DLes.au)); (focus exact rfl); (all_goals (exact pre))) | ((first | apply gives_go (isAtom_sem _ _ _ _ _ _) | apply gives_go (atomsNil_sem _ _) | apply gives_go (hasNil_sem _)); (focus (exact DLes.au)); (focus exact rfl); (all_goals (exact pre))))); (all_goals exact rfl)) | exact side)))
   | ((with_reducible apply CallO.go); (conv => whnf); (with_reducible apply SideD.mk); (focus (first | ((apply giveso_go (atomsO_sem _ _ _)); (focus (first | exact rfl | (simp; done))); (focus (exact DLes.au)); (focus exact rfl); (all_goals (exact pre))))))
   | ((with_reducible first | apply DrawR.go0 | apply KerB.mk); (focus kernel_rfl))
   | (with_reducible first | apply ends_ret | apply ends_norm | apply Halt'.mk)
   | ((with_reducible apply CondD.mk) <;> intro hb <;> (try simp only [SPLT] at hb) <;> (try first | exact noB)))
 all_goals (try exact (false : Bool))
 ·rw [if_neg (by simp_all)] at hr
  refine loop_go (M := fun t => mem t [6, 1000048, 1000051, 1000063]) hT hM (fun x : Nat × List Cond => [(0, .sl 1 6 (x.2.map Cond.row)), (13, .int .i64 x.1)]) (fun x => x.1 ≤ ks.length ∧ x.2.length + Cond.acnts (ks.drop x.1) ≤ 100000 ∧ Cond.atss (ks.drop x.1) x.2 = r) (fun x => ks.length - x.1) ((0, [])) ?_ ?_ ?_
  ·(conv => whnf)
   refine ⟨?_, by rfl⟩
   repeat' ((conv => whnf); first | exact endF | exact endF2 | with_reducible apply DLes.cons)
  ·exact ⟨Nat.zero_le _, by rw [if_neg (by simp_all)] at hn; simp; omega, hr.symm⟩
  ·rintro ⟨i, acc⟩ ⟨hi, hm, hv⟩
   dsimp only at hi hm hv ⊢
   cases hx : ks[i]? with
   | none =>
    have hm' := List.getElem?_eq_none_iff.1 hx
    rw [List.drop_of_length_le hm', atss_nil] at hv
    subst hv
    repeat' (
     (conv => whnf)
     first
      | ((try ((with_reducible first | apply NumE.go | apply IdxE.go | apply TextE.go | apply LookE.go | apply CallE.go); (conv => whnf))); (with_reducible apply SideD.mk); (focus (first | ((try apply givesl); (focus (first | ((apply gives_go (has_sem _ _)); (focus (exact DLes.au)); (focus exact rfl); (all_goals (exact pre))) | ((first | apply gives_go (isAtom_sem _ _ _ _ _ _) | apply gives_go (atomsNil_sem _ _) | apply gives_go (hasNil_sem _)); (focus (exact DLes.au)); (focus exact rfl); (all_goals (exact pre))))); (all_goals exact rfl)) | exact side)))
      | ((with_reducible apply CallO.go); (conv => whnf); (with_reducible apply SideD.mk); (focus (first | ((apply giveso_go (atomsO_sem _ _ _)); (focus (first | exact rfl | (simp; done))); (focus (exact DLes.au)); (focus exact rfl); (all_goals (exact pre))))))
      | ((with_reducible first | apply DrawR.go0 | apply KerB.mk); (focus kernel_rfl))
      | (with_reducible first | apply ends_ret | apply ends_norm | apply Halt'.mk)
      | ((with_reducible apply CondD.mk) <;> intro hb <;> (try simp only [SPLT] at hb) <;> (try first | exact noB)))
    all_goals (try exact (false : Bool))
    repeat' ((conv => whnf); first | exact endR | (with_reducible first | apply And.intro | apply endsO_ret | apply endsO_norm | apply DLes.cons))
    all_goals (conv => whnf)
   | some x =>
    have hlt := (List.getElem?_eq_some_iff.1 hx).1
    rw [atss_at hx] at hv
    rw [List.drop_eq_getElem_cons hlt, (List.getElem?_eq_some_iff.1 hx).2, acnts_cons] at hm
    have ih' := SemO.of (atoms_sem x acc (by omega))
    have hl2 := ats_len x acc
    generalize x.ats acc = acc2 at ih' hv hl2
    obtain ⟨k1, ks1, p1, vs1, lo1, hi1⟩ := x
    rw [Cond.row_mk] at ih'
    repeat' (
     (conv => whnf)
     first
      | ((try ((with_reducible first | apply NumE.go | apply IdxE.go | apply TextE.go | apply LookE.go | apply CallE.go); (conv => whnf))); (with_reducible apply SideD.mk); (focus (first | (exact idx_row hx rfl) | ((try apply givesl); (focus (first | ((apply gives_go (has_sem _ _)); (focus (exact DLes.au)); (focus exact rfl); (all_goals (exact pre))) | ((first | apply gives_go (isAtom_sem _ _ _ _ _ _) | apply gives_go (atomsNil_sem _ _) | apply gives_go (hasNil_sem _)); (focus (exact DLes.au)); (focus exact rfl); (all_goals (exact pre))))); (all_goals exact rfl)) | exact side)))
      | ((with_reducible apply CallO.go); (conv => whnf); (with_reducible apply SideD.mk); (focus (first | ((apply giveso_go (ih')); (focus (first | exact rfl | (simp; done))); (focus (exact DLes.au)); (focus exact rfl); (all_goals (exact pre))))))
      | ((with_reducible first | apply DrawR.go0 | apply KerB.mk); (focus kernel_rfl))
      | (with_reducible first | apply ends_ret | apply ends_norm | apply Halt'.mk)
      | ((with_reducible apply CondD.mk) <;> intro hb <;> (try simp only [SPLT] at hb) <;> (try first | exact noB)))
    all_goals (try exact (false : Bool))
    refine ⟨(i + 1, acc2), ⟨by dsimp only; omega, by dsimp only; omega, hv⟩, by dsimp only; omega, ?_⟩
    (conv => whnf)
    refine ⟨?_, by rfl⟩
    repeat' ((conv => whnf); first | exact endF | exact endF2 | with_reducible apply DLes.cons)
 ·rw [if_pos (by simp_all), if_neg (by simp)] at hr
  subst hr
  repeat' ((conv => whnf); first | exact endR | (with_reducible first | apply And.intro | apply endsO_ret | apply endsO_norm | apply DLes.cons))
  all_goals (conv => whnf)
  rw [List.nil_append, List.map_cons, List.map_nil, Cond.row_mk]
  exact rle_sl0 rfl
theorem atoms4_sem (c : Cond) : ∀ out : List Cond, out.length + c.acnt ≤ 100000 → Sem Tryz.prog 48 [.sl 1 6 (out.map Cond.row), .agg c.row] (.sl 1 6 ((c.ats out).map Cond.row)) := by
 induction c using Cond.ind with
 | h k ks p vs lo hi ih =>
  intro out hn
  have h1 := isAtom4_sem k (ks.map Cond.row) p (vs.map fun s => [.str s]) lo hi
  have h2 := number_sem out (.mk k ks p vs lo hi)
  rw [Cond.row_mk] at h2
  have hll : (ks.map Cond.row).length = ks.length := List.length_map _
  have hol : ((out : List Cond).map Cond.row).length = (out : List Cond).length := List.length_map _
  rw [acnt_mk] at hn
  rw [Cond.row_mk]
  refine sem_lenA 1 1 rfl rfl rfl fun hks => ?_
  rw [List.length_map] at hks
  rw [← Cond.row_mk]
  have hr := ats_mk k ks p vs lo hi out
  have hq := idxG_any (fun x : Cond => x.same (.mk k ks p vs lo hi)) out 0 (by omega)
  change decide (0 ≤ numC out (.mk k ks p vs lo hi)) = hasC out (.mk k ks p vs lo hi) at hq
  generalize (Cond.mk k ks p vs lo hi).ats out = r at hr ⊢
  generalize hasC out (.mk k ks p vs lo hi) = b at hq hr
  generalize numC out (.mk k ks p vs lo hi) = m at h2 hq
  generalize isAtomB k = q at h1 hr hn
  rw [Cond.row_mk]
  refine sem_intro (M := fun t => mem t [1000048, 1000051, 1000063]) hT hM Tryz.func48 inferInstance rfl rfl rfl rfl rfl rfl ?_
  repeat' (
   (conv => whnf)
   first
    | ((try ((with_reducible first | apply NumE.go | apply IdxE.go | apply TextE.go | apply LookE.go | apply CallE.go); (conv => whnf))); (with_reducible apply SideD.mk); (focus (first | ((try apply givesl); (focus (first | ((apply gives_go (h1)); (focus (exact DLes.au)); (focus exact rfl); (all_goals (exact pre))) | ((apply gives_go (h2)); (focus (exact DLes.au)); (focus exact rfl); (all_goals (exact pre))) | ((first | apply gives_go (isAtom4_sem _ _ _ _ _ _) | apply gives_go (number_sem _ _) | apply gives_go (atoms4Nil_sem _ _)); (focus (exact DLes.au)); (focus exact rfl); (all_goals (exact pre))))); (all_goals exact rfl)) | exact side)))
    | ((with_reducible apply CallO.go); (conv => whnf); (with_reducible apply SideD.mk); (focus (first | ((apply giveso_go (atoms4O_sem _ _ _)); (focus (first | exact rfl | (simp; done))); (focus (exact DLes.au)); (focus exact rfl); (all_goals (exact pre))))))
    | ((with_reducible first | apply DrawR.go0 | apply KerB.mk); (focus kernel_rfl))
    | (with_reducible first | apply ends_ret | apply ends_norm | apply Halt'.mk)
    | ((with_reducible apply CondD.mk) <;> intro hb <;> (try simp only [SPLT] at hb) <;> (try first | exact noB)))
  all_goals (try exact (false : Bool))
  ·rw [if_pos (by simp_all), if_neg (by rw [← hq]; simp; omega)] at hr
   subst hr
   repeat' ((conv => whnf); first | exact endR | (with_reducible first | apply And.intro | apply endsO_ret | apply endsO_norm | apply DLes.cons))
   all_goals (conv => whnf)
   refine rle_sl ?_
   rw [List.map_append, List.map_cons, List.map_nil, Cond.row_mk]
  ·rw [if_pos (by simp_all), if_pos (by rw [← hq]; simp; omega)] at hr
   subst hr
   repeat' ((conv => whnf); first | exact endR | (with_reducible first | apply And.intro | apply endsO_ret | apply endsO_norm | apply DLes.cons))
   all_goals (conv => whnf)
  ·rw [if_neg (by simp_all)] at hr
   refine loop_go (M := fun t => mem t [1000048, 1000051, 1000063]) hT hM (fun x : Nat × List Cond => [(0, .sl 1 6 (x.2.map Cond.row)), (5, .int .i64 x.1)]) (fun x => x.1 ≤ ks.length ∧ x.2.length + Cond.acnts (ks.drop x.1) ≤ 100000 ∧ Cond.atss (ks.drop x.1) x.2 = r) (fun x => ks.length - x.1) ((0, out)) ?_ ?_ ?_
   ·(conv => whnf)
    refine ⟨?_, by rfl⟩
    repeat' ((conv => whnf); first | exact endF | exact endF2 | with_reducible apply DLes.cons)
   ·exact ⟨Nat.zero_le _, by rw [if_neg (by simp_all)] at hn; simp; omega, hr.symm⟩
   ·rintro ⟨i, acc⟩ ⟨hi, hm, hv⟩
    dsimp only at hi hm hv ⊢
    cases hx : ks[i]? with
    | none =>
     have hm' := List.getElem?_eq_none_iff.1 hx
     rw [List.drop_of_length_le hm', atss_nil] at hv
     subst hv
     repeat' (
      (conv => whnf)
      first
       | ((try ((with_reducible first | apply NumE.go | apply IdxE.go | apply TextE.go | apply LookE.go | apply CallE.go); (conv => whnf))); (with_reducible apply SideD.mk); (focus (first | ((try apply givesl); (focus (((first | apply gives_go (isAtom4_sem _ _ _ _ _ _) | apply gives_go (number_sem _ _) | apply gives_go (atoms4Nil_sem _ _)); (focus (exact DLes.au)); (focus exact rfl); (all_goals (exact pre))))); (all_goals exact rfl)) | exact side)))
       | ((with_reducible apply CallO.go); (conv => whnf); (with_reducible apply SideD.mk); (focus (first | ((apply giveso_go (atoms4O_sem _ _ _)); (focus (first | exact rfl | (simp; done))); (focus (exact DLes.au)); (focus exact rfl); (all_goals (exact pre))))))
       | ((with_reducible first | apply DrawR.go0 | apply KerB.mk); (focus kernel_rfl))
       | (with_reducible first | apply ends_ret | apply ends_norm | apply Halt'.mk)
       | ((with_reducible apply CondD.mk) <;> intro hb <;> (try simp only [SPLT] at hb) <;> (try first | exact noB)))
     all_goals (try exact (false : Bool))
     repeat' ((conv => whnf); first | exact endR | (with_reducible first | apply And.intro | apply endsO_ret | apply endsO_norm | apply DLes.cons))
     all_goals (conv => whnf)
    | some x =>
     have hlt := (List.getElem?_eq_some_iff.1 hx).1
     rw [atss_at hx] at hv
     rw [List.drop_eq_getElem_cons hlt, (List.getElem?_eq_some_iff.1 hx).2, acnts_cons] at hm
     have ih' := SemO.of (ih x (List.mem_of_getElem? hx) acc (by omega))
     have hl2 := ats_len x acc
     generalize x.ats acc = acc2 at ih' hv hl2
     obtain ⟨k1, ks1, p1, vs1, lo1, hi1⟩ := x
     rw [Cond.row_mk] at ih'
     repeat' (
      (conv => whnf)
      first
       | ((try ((with_reducible first | apply NumE.go | apply IdxE.go | apply TextE.go | apply LookE.go | apply CallE.go); (conv => whnf))); (with_reducible apply SideD.mk); (focus (first | (exact idx_row hx rfl) | ((try apply givesl); (focus (((first | apply gives_go (isAtom4_sem _ _ _ _ _ _) | apply gives_go (number_sem _ _) | apply gives_go (atoms4Nil_sem _ _)); (focus (exact DLes.au)); (focus exact rfl); (all_goals (exact pre))))); (all_goals exact rfl)) | exact side)))
       | ((with_reducible apply CallO.go); (conv => whnf); (with_reducible apply SideD.mk); (focus (first | ((apply giveso_go (ih')); (focus (first | exact rfl | (simp; done))); (focus (exact DLes.au)); (focus exact rfl); (all_goals (exact pre))))))
       | ((with_reducible first | apply DrawR.go0 | apply KerB.mk); (focus kernel_rfl))
       | (with_reducible first | apply ends_ret | apply ends_norm | apply Halt'.mk)
       | ((with_reducible apply CondD.mk) <;> intro hb <;> (try simp only [SPLT] at hb) <;> (try first | exact noB)))
     all_goals (try exact (false : Bool))
     refine ⟨(i + 1, acc2), ⟨by dsimp only; omega, by dsimp only; omega, hv⟩, by dsimp only; omega, ?_⟩
     (conv => whnf)
     refine ⟨?_, by rfl⟩
     repeat' ((conv => whnf); first | exact endF | exact endF2 | with_reducible apply DLes.cons)
theorem atoms4Nil_sem (c : Cond) (hn : c.acnt ≤ 100000) : Sem Tryz.prog 48 [.nil, .agg c.row] (.sl 0 6 ((c.ats []).map Cond.row)) := by
 obtain ⟨k, ks, p, vs, lo, hi⟩ := c
 have h1 := isAtom4_sem k (ks.map Cond.row) p (vs.map fun s => [.str s]) lo hi
 have h2 := (number_sem [] (.mk k ks p vs lo hi)).weak (args' := [.nil, .agg (Cond.mk k ks p vs lo hi).row]) (.cons (.nil _ _) (.cons (.refl _) .nil))
 rw [Cond.row_mk] at h2
 have hll : (ks.map Cond.row).length = ks.length := List.length_map _
 have hol : (([] : List Cond).map Cond.row).length = ([] : List Cond).length := List.length_map _
 rw [acnt_mk] at hn
 rw [Cond.row_mk]
 refine sem_lenA 1 1 rfl rfl rfl fun hks => ?_
 rw [List.length_map] at hks
 rw [← Cond.row_mk]
 have hr := ats_mk k ks p vs lo hi []
 have hq := idxG_any (fun x : Cond => x.same (.mk k ks p vs lo hi)) [] 0 (by omega)
 change decide (0 ≤ numC [] (.mk k ks p vs lo hi)) = hasC [] (.mk k ks p vs lo hi) at hq
 generalize (Cond.mk k ks p vs lo hi).ats [] = r at hr ⊢
 generalize hasC [] (.mk k ks p vs lo hi) = b at hq hr
 generalize numC [] (.mk k ks p vs lo hi) = m at h2 hq
 generalize isAtomB k = q at h1 hr hn
 rw [Cond.row_mk]
 refine sem_intro (M := fun t => mem t [1000048, 1000051, 1000063]) hT hM Tryz.func48 inferInstance rfl rfl rfl rfl rfl rfl ?_
 repeat' (
  (conv => whnf)
  first
   | ((try ((with_reducible first | apply NumE.go | apply IdxE.go | apply TextE.go | apply LookE.go | apply CallE.go); (conv => whnf))); (with_reducible apply SideD.mk); (focus (first | ((try apply givesl); (focus (first | ((apply gives_go (h1)); (focus (exact DLes.au)); (focus exact rfl); (all_goals (exact pre))) | ((apply gives_go (h2)); (focus (exact DLes.au)); (focus exact rfl); (all_goals (exact pre))) | ((first | apply gives_go (isAtom4_sem _ _ _ _ _ _) | apply gives_go (number_sem _ _) | apply gives_go (atoms4Nil_sem _ _)); (focus (exact DLes.au)); (focus exact rfl); (all_goals (exact pre))))); (all_goals exact rfl)) | exact side)))
   | ((with_reducible apply CallO.go); (conv => whnf); (with_reducible apply SideD.mk); (focus (first | ((apply giveso_go (atoms4O_sem _ _ _)); (focus (first | exact rfl | (simp; done))); (focus (exact DLes.au)); (focus exact rfl); (all_goals (exact pre))))))
   | ((with_reducible first | apply DrawR.go0 | apply KerB.mk); (focus kernel_rfl))
   | (with_reducible first | apply ends_ret | apply ends_norm | apply Halt'.mk)
   | ((with_reducible apply CondD.mk) <;> intro hb <;> (try simp only [SPLT] at hb) <;> (try first | exact noB)))
 all_goals (try exact (false : Bool))
 ·rw [if_pos (by simp_all), if_neg (by rw [← hq]; simp; omega)] at hr
  subst hr
  repeat' ((conv => whnf); first | exact endR | (with_reducible first | apply And.intro | apply endsO_ret | apply endsO_norm | apply DLes.cons))
  all_goals (conv => whnf)
  rw [List.nil_append, List.map_cons, List.map_nil, Cond.row_mk]
  exact rle_sl0 rfl
 ·rw [if_pos (by simp_all), if_pos (by rw [← hq]; simp; omega)] at hr
  subst hr
  repeat' ((conv => whnf); first | exact endR | (with_reducible first | apply And.intro | apply endsO_ret | apply endsO_norm | apply DLes.cons))
  all_goals (conv => whnf)
 ·rw [if_neg (by simp_all)] at hr
  refine loop_go (M := fun t => mem t [1000048, 1000051, 1000063]) hT hM (fun x : Nat × List Cond => [(0, .sl 1 6 (x.2.map Cond.row)), (5, .int .i64 x.1)]) (fun x => x.1 ≤ ks.length ∧ x.2.length + Cond.acnts (ks.drop x.1) ≤ 100000 ∧ Cond.atss (ks.drop x.1) x.2 = r) (fun x => ks.length - x.1) ((0, [])) ?_ ?_ ?_
  ·(conv => whnf)
   refine ⟨?_, by rfl⟩
   repeat' ((conv => whnf); first | exact endF | exact endF2 | with_reducible apply DLes.cons)
  ·exact ⟨Nat.zero_le _, by rw [if_neg (by simp_all)] at hn; simp; omega, hr.symm⟩
  ·rintro ⟨i, acc⟩ ⟨hi, hm, hv⟩
   dsimp only at hi hm hv ⊢
   cases hx : ks[i]? with
   | none =>
    have hm' := List.getElem?_eq_none_iff.1 hx
    rw [List.drop_of_length_le hm', atss_nil] at hv
    subst hv
    repeat' (
     (conv => whnf)
     first
      | ((try ((with_reducible first | apply NumE.go | apply IdxE.go | apply TextE.go | apply LookE.go | apply CallE.go); (conv => whnf))); (with_reducible apply SideD.mk); (focus (first | ((try apply givesl); (focus (((first | apply gives_go (isAtom4_sem _ _ _ _ _ _) | apply gives_go (number_sem _ _) | apply gives_go (atoms4Nil_sem _ _)); (focus (exact DLes.au)); (focus exact rfl); (all_goals (exact pre))))); (all_goals exact rfl)) | exact side)))
      | ((with_reducible apply CallO.go); (conv => whnf); (with_reducible apply SideD.mk); (focus (first | ((apply giveso_go (atoms4O_sem _ _ _)); (focus (first | exact rfl | (simp; done))); (focus (exact DLes.au)); (focus exact rfl); (all_goals (exact pre))))))
      | ((with_reducible first | apply DrawR.go0 | apply KerB.mk); (focus kernel_rfl))
      | (with_reducible first | apply ends_ret | apply ends_norm | apply Halt'.mk)
      | ((with_reducible apply CondD.mk) <;> intro hb <;> (try simp only [SPLT] at hb) <;> (try first | exact noB)))
    all_goals (try exact (false : Bool))
    repeat' ((conv => whnf); first | exact endR | (with_reducible first | apply And.intro | apply endsO_ret | apply endsO_norm | apply DLes.cons))
    all_goals (conv => whnf)
   | some x =>
    have hlt := (List.getElem?_eq_some_iff.1 hx).1
    rw [atss_at hx] at hv
    rw [List.drop_eq_getElem_cons hlt, (List.getElem?_eq_some_iff.1 hx).2, acnts_cons] at hm
    have ih' := SemO.of (atoms4_sem x acc (by omega))
    have hl2 := ats_len x acc
    generalize x.ats acc = acc2 at ih' hv hl2
    obtain ⟨k1, ks1, p1, vs1, lo1, hi1⟩ := x
    rw [Cond.row_mk] at ih'
    repeat' (
     (conv => whnf)
     first
      | ((try ((with_reducible first | apply NumE.go | apply IdxE.go | apply TextE.go | apply LookE.go | apply CallE.go); (conv => whnf))); (with_reducible apply SideD.mk); (focus (first | (exact idx_row hx rfl) | ((try apply givesl); (focus (((first | apply gives_go (isAtom4_sem _ _ _ _ _ _) | apply gives_go (number_sem _ _) | apply gives_go (atoms4Nil_sem _ _)); (focus (exact DLes.au)); (focus exact rfl); (all_goals (exact pre))))); (all_goals exact rfl)) | exact side)))
      | ((with_reducible apply CallO.go); (conv => whnf); (with_reducible apply SideD.mk); (focus (first | ((apply giveso_go (ih')); (focus (first | exact rfl | (simp; done))); (focus (exact DLes.au)); (focus exact rfl); (all_goals (exact pre))))))
      | ((with_reducible first | apply DrawR.go0 | apply KerB.mk); (focus kernel_rfl))
      | (with_reducible first | apply ends_ret | apply ends_norm | apply Halt'.mk)
      | ((with_reducible apply CondD.mk) <;> intro hb <;> (try simp only [SPLT] at hb) <;> (try first | exact noB)))
    all_goals (try exact (false : Bool))
    refine ⟨(i + 1, acc2), ⟨by dsimp only; omega, by dsimp only; omega, hv⟩, by dsimp only; omega, ?_⟩
    (conv => whnf)
    refine ⟨?_, by rfl⟩
    repeat' ((conv => whnf); first | exact endF | exact endF2 | with_reducible apply DLes.cons)
theorem atomsO_sem (c : Cond) (out : List Cond) (h : out.length + c.acnt ≤ 100000) : SemO Tryz.prog 51 (.sl 1 6 (out.map Cond.row)) [.agg c.row] (.sl 1 6 ((c.ats out).map Cond.row)) none := SemO.of (atoms_sem c out h)
theorem atoms4O_sem (c : Cond) (out : List Cond) (h : out.length + c.acnt ≤ 100000) : SemO Tryz.prog 48 (.sl 1 6 (out.map Cond.row)) [.agg c.row] (.sl 1 6 ((c.ats out).map Cond.row)) none := SemO.of (atoms4_sem c out h)
end Go.Proofs.YtbphihljkbdfpaaGreatDoor
