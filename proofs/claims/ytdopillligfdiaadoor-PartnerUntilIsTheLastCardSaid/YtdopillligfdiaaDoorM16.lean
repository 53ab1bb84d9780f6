/- Small lemmas for walks on data. -/
import Derived.Test.YtdopillligfdiaaDoorM15
namespace Go.Proofs.YtdopillligfdiaaDoor
set_option linter.unusedSimpArgs false
set_option linter.unusedVariables false
open Go.RowKit

/-- What tests are split by. -/
theorem SPLT : (∀ {α : Type} [BEq α] [LawfulBEq α] {a b : α}, (a != b) = true ↔ a ≠ b) ∧ (∀ {α : Type} (a b : α), (a ≠ b) = ¬ (a = b)) ∧ (∀ {α : Type} [BEq α] [LawfulBEq α] {a b : α}, (a != b) = false ↔ a = b) ∧ (∀ {α : Type} [BEq α] [LawfulBEq α] {a b : α}, (a == b) = true ↔ a = b) ∧
    (∀ {α : Type} [BEq α] [LawfulBEq α] {a b : α}, (a == b) = false ↔ a ≠ b) ∧ (∀ {p : Prop} [Decidable p], (decide p = true) = p) ∧ (∀ {p : Prop} [Decidable p], decide p = false ↔ ¬ p) ∧ (∀ b : Bool, ((!b) = true) = (b = false)) ∧ (∀ b : Bool, ((!b) = false) = (b = true)) ∧ (∀ a b : Bool, ((a && b) = true) = (a = true ∧ b = true)) ∧
    (∀ a b : Bool, ((a || b) = true) = (a = true ∨ b = true)) ∧ (∀ {a b : Bool}, (a && b) = false ↔ a = false ∨ b = false) ∧ (∀ {a b : Bool}, (a || b) = false ↔ a = false ∧ b = false) ∧ (∀ {a b : Int}, ¬ a < b ↔ b ≤ a) ∧ (∀ {a b : Int}, ¬ a ≤ b ↔ b < a) ∧ (∀ b : Bool, (¬ (b = true)) = (b = false)) ∧ (∀ b : Bool, (¬ (b = false)) = (b = true)) ∧
    (∀ {α β : Type} {as : List α} (f : α → β), (as.map f).length = as.length) ∧ (∀ {α : Type} (a : α) (as : List α), (a :: as).length = as.length + 1) ∧ (∀ {α : Type}, ([] : List α).length = 0) := by
  refine ⟨?_, ?_, ?_, ?_, ?_, ?_, ?_, ?_, ?_, ?_, ?_, ?_, ?_, ?_, ?_, ?_, ?_, ?_, ?_, ?_⟩ <;> intros <;> first | exact Bool.and_eq_false_iff | exact Bool.or_eq_false_iff | simp
theorem DrawR.go0 {ops : List Oper} {ok : Nat → Bool} {F : Nat → Prop} (h1 : ok (effOf ops 0) = true) (h2 : F (effOf ops 0)) : DrawR ops ok F := ⟨_, h1, h2⟩
theorem ends_ret {T : Nat → Option TI} {rs : List ResultVar} {fr : List D} {d : D} (h : RetOk T rs fr d) : Ends T .ret rs fr d := ⟨.inr rfl, h⟩
theorem ends_norm {T : Nat → Option TI} {rs : List ResultVar} {fr : List D} {d : D} (h : RetOk T rs fr d) : Ends T .normal rs fr d := ⟨.inl rfl, h⟩
theorem endsO_ret {T : Nat → Option TI} {rs : List ResultVar} {fr : List D} {d : D} {out : Option D} (h : RetOk T rs fr d) (o : OutOk fr out) : EndsO T .ret rs fr d out := ⟨ends_ret h, o⟩
theorem endsO_norm {T : Nat → Option TI} {rs : List ResultVar} {fr : List D} {d : D} {out : Option D} (h : RetOk T rs fr d) (o : OutOk fr out) : EndsO T .normal rs fr d out := ⟨ends_norm h, o⟩
theorem gives_go {P : Program} {f : Nat} {args ds' : List D} {d : D} (hs : Sem P f ds' d) (hl : DLes args ds') (hp : ds'.all D.passes = true) : Gives P f args d := ⟨ds', hl, hp, hs⟩
theorem giveso_go {P : Program} {f : Nat} {d0 d1 : D} {args ds' : List D} {d : D} {out : Option D} (hs : SemO P f d1 ds' d out) (he : d0 = d1) (hl : DLes args ds') (hp : ds'.all D.passes = true) : GivesO P f d0 args d out := ⟨d1, ds', he, hl, hp, hs⟩
theorem DLe.of_eq {d d' : D} (h : d = d') : DLe d d' := h ▸ .refl d
theorem shr_one {k : IntKind} (p : Int) : 0 ≤ (1 : Int) ∧ (1 : Int) ≤ k.bits ∧ p / 2 ^ (1 : Int).toNat = p / 2 := ⟨by decide, by cases k <;> decide, rfl⟩
theorem rle_refl {d : D} : RLe d d := .le (.refl d)
theorem rle_int {k : IntKind} {a b : Int} (h : a = b) : RLe (.int k a) (.int k b) := h ▸ rle_refl
theorem rle_bool {a b : Bool} (h : a = b) : RLe (.bool a) (.bool b) := h ▸ rle_refl
theorem rle_str {a b : List UInt8} (h : a = b) : RLe (.str a) (.str b) := h ▸ rle_refl
theorem rle_sl {m sz : Nat} {a b : List (List D)} (h : a = b) : RLe (.sl m sz a) (.sl m sz b) := h ▸ rle_refl
theorem rle_sl0 {m sz : Nat} {a b : List (List D)} (h : a = b) : RLe (.sl m sz a) (.sl 0 sz b) := h ▸ .frz rfl (.refl _)
theorem rle_nil {m sz : Nat} {b : List (List D)} (h : b = []) : RLe .nil (.sl m sz b) := by subst h; exact .le (.nil m sz)
theorem dle_int {k : IntKind} {a b : Int} (h : a = b) : DLe (.int k a) (.int k b) := h ▸ .refl _
theorem dle_bool {a b : Bool} (h : a = b) : DLe (.bool a) (.bool b) := h ▸ .refl _
theorem dle_str {a b : List UInt8} (h : a = b) : DLe (.str a) (.str b) := h ▸ .refl _
theorem dle_sl {m sz : Nat} {a b : List (List D)} (h : a = b) : DLe (.sl m sz a) (.sl m sz b) := h ▸ .refl _
theorem dle_sl1 {sz : Nat} {a b : List (List D)} (h : a = b) : DLe (.sl 1 sz a) (.sl 0 sz b) := h ▸ .own _ _
theorem dle_nil {m sz : Nat} {b : List (List D)} (h : b = []) : DLe .nil (.sl m sz b) := by subst h; exact .nil m sz
theorem idx_some {α : Type} {f : α → List D} {l : List α} {j : Int} {x : α} (h0 : 0 ≤ j) (h : l[j.toNat]? = some x) : 0 ≤ j ∧ (l.map f)[j.toNat]? = some (f x) := ⟨h0, by rw [List.getElem?_map, h]; rfl⟩
theorem idx_nat {α : Type} {f : α → List D} {l : List α} {k : Nat} {x : α} (h : l[k]? = some x) : 0 ≤ (k : Int) ∧ (l.map f)[(k : Int).toNat]? = some (f x) := idx_some (by omega) h
theorem idx_eq {α : Type} {f : α → List D} {l : List α} {j : Int} {k : Nat} {x : α} (h : l[k]? = some x) (hj : j = k) : 0 ≤ j ∧ (l.map f)[j.toNat]? = some (f x) := by subst hj; exact idx_nat h
/-- A frame of which these slots are known. -/
def look (i : Nat) : List (Nat × D) → D
  | [] => .any
  | (j, d) :: r => match Nat.beq i j with
    | true => d
    | false => look i r
def frm (l : List (Nat × D)) : Nat → Nat → List D
  | _, 0 => []
  | i, n + 1 => look i l :: frm l (i + 1) n
/-- Slots that a piece of code writes. -/
def wrs : Code → List Nat
  | .region _ ops _ => ops.toList.filterMap (·.dst)
  | .seq a b => wrs a ++ wrs b
  | .cond _ a b => wrs a ++ wrs b
  | .block _ a => wrs a
  | .loop a => wrs a
  | _ => []
def mem (i : Nat) : List Nat → Bool
  | [] => false
  | j :: r => match Nat.beq i j with
    | true => true
    | false => mem i r
/-- The frame at the head of a loop: what the loop writes is as given, all else as it came. -/
def head (ws : List Nat) (l : List (Nat × D)) : Nat → List D → List D
  | _, [] => []
  | i, d :: r => (match mem i ws || mem i (l.map (·.1)) with
    | true => look i l
    | false => match d with
      | .al u => match mem u ws with
        | true => look i l
        | false => .al u
      | d => d) :: head ws l (i + 1) r
section
variable {P : Program} {T : Nat → Option TI} {Z : Nat → Option (List Value)} {M : Nat → Bool}
/-- A loop whose slots hold, round by round, what is given. -/
theorem loop_go (hT : TOk P T Z) (hm : P.follows .mixedOrders = true) {c : Code} {fr : List D} {Q : Exit → List D → Prop} {α : Type} (I : α → List (Nat × D)) (pre : α → Prop) (μ : α → Nat) (x0 : α) (h0 : forceH (head (wrs c) (I x0) 0 fr) (FLe fr)) (hp0 : pre x0)
    (step : ∀ x, pre x → forceH (head (wrs c) (I x) 0 fr) fun fr1 => vc P T Z M c fr1 fun e fr' => match e with
      | .normal => Halt' (∃ y, pre y ∧ μ y < μ x ∧ forceH (head (wrs c) (I y) 0 fr) (FLe fr'))
      | e => Q e fr') : HT P (.loop c) fr Q := by
  simp only [forceH_eq] at h0 step
  exact vc_loop hT hm (fun x => head (wrs c) (I x) 0 fr) pre μ x0 h0 hp0 step
/-- Slots whose elements the code reads by address. -/
def downs (ts : List Nat) (fr : List D) : List D := ts.foldl (fun fr t => down1 fr (.tmp t)) fr
theorem ht_down (ts : List Nat) {c : Code} {fr : List D} {Q : Exit → List D → Prop} (h : forceL (downs ts fr) fun fr => HT P c fr Q) : HT P c fr Q := by
  rw [forceL_eq] at h
  refine ⟨fun S w a hF Q' hQ => ?_⟩
  obtain ⟨S1, t1, h1⟩ := fold_sound (fun S fr t h => down1_sound h (.tmp t)) ts _ _ hF
  exact h.h S1 w a h1 Q' fun e fr' S' w' a' k t f => hQ e fr' S' w' a' k (t1.trans t) f
end
end Go.Proofs.YtdopillligfdiaaDoor
