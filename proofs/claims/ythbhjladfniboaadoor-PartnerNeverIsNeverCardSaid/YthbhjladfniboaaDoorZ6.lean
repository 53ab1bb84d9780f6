/- The tables of types for the data machine. (Written by wip/dtab.py.). -/
import Derived.Test.YthbhjladfniboaaDoorZ3
import Derived.Test.YthbhjladfniboaaDoorZ5
namespace Go.Proofs.YthbhjladfniboaaDoor
open Go.RowKit
def lookT {α : Type} : List (Nat × α) → Nat → Option α
  | [], _ => none
  | (k, v) :: r, t => match Nat.beq k t with
    | true => some v
    | false => lookT r t
theorem lookT_mem {α : Type} : ∀ {l : List (Nat × α)} {t : Nat} {x : α}, lookT l t = some x → (t, x) ∈ l
  | [], _, _, h => by cases h
  | (k, v) :: r, t, x, h => by
    simp only [lookT] at h
    split at h
    · rename_i hk
      have hk := Nat.eq_of_beq_eq_true hk
      cases h
      subst hk
      simp
    · exact List.mem_cons_of_mem _ (lookT_mem h)
def AllT {α : Type} (R : Nat → α → Prop) : List (Nat × α) → Prop
  | [] => True
  | (k, v) :: l => R k v ∧ AllT R l
theorem AllT.at {α : Type} {R : Nat → α → Prop} : ∀ {l : List (Nat × α)} {t : Nat} {x : α}, AllT R l → lookT l t = some x → R t x
  | [], _, _, _, h => by cases h
  | (k, v) :: r, t, x, ha, h => by
    simp only [lookT] at h
    split at h
    · rename_i hk
      have hk := Nat.eq_of_beq_eq_true hk
      cases h
      subst hk
      exact ha.1
    · exact AllT.at ha.2 h
set_option maxRecDepth 100000
theorem tf0 : TFact Tryd.prog 0 (.one) := (inferInstance : TOne Tryd.prog 0)
theorem tf1 : TFact Tryd.prog 1 (.one) := (inferInstance : TOne Tryd.prog 1)
theorem tf2 : TFact Tryd.prog 2 (.int .i64) := ⟨inferInstance, inferInstance⟩
theorem tf3 : TFact Tryd.prog 3 (.int .i64) := ⟨inferInstance, inferInstance⟩
theorem tf4 : TFact Tryd.prog 4 (.bool) := ⟨inferInstance, inferInstance⟩
theorem tf5 : TFact Tryd.prog 5 (.int .u8) := ⟨inferInstance, inferInstance⟩
theorem tf6 : TFact Tryd.prog 6 (.int .u8) := ⟨inferInstance, inferInstance⟩
theorem tf7 : TFact Tryd.prog 7 (.st 4 [(0, 1, false), (1, 1, false), (2, 1, false), (3, 1, false)] (some [0, 0, 2, 0])) := ⟨inferInstance, fun i off n ag h => by
    match i, h with
    | 0, h => cases h; infer_instance
    | 1, h => cases h; infer_instance
    | 2, h => cases h; infer_instance
    | 3, h => cases h; infer_instance
    | j + 4, h => simp at h, inferInstance, fun k h => by
    cases h; infer_instance⟩
theorem tf8 : TFact Tryd.prog 8 (.st 4 [(0, 1, false), (1, 1, false), (2, 1, false), (3, 1, false)] (some [0, 0, 2, 0])) := ⟨inferInstance, fun i off n ag h => by
    match i, h with
    | 0, h => cases h; infer_instance
    | 1, h => cases h; infer_instance
    | 2, h => cases h; infer_instance
    | 3, h => cases h; infer_instance
    | j + 4, h => simp at h, inferInstance, fun k h => by
    cases h; infer_instance⟩
theorem tf9 : TFact Tryd.prog 9 (.str) := ⟨inferInstance, inferInstance⟩
theorem tf10 : TFact Tryd.prog 10 (.str) := ⟨inferInstance, inferInstance⟩
theorem tf11 : TFact Tryd.prog 11 (.str) := ⟨inferInstance, inferInstance⟩
theorem tf12 : TFact Tryd.prog 12 (.int .u64) := ⟨inferInstance, inferInstance⟩
theorem tf13 : TFact Tryd.prog 13 (.st 2 [(0, 1, false), (1, 1, false)] none) := ⟨inferInstance, fun i off n ag h => by
    match i, h with
    | 0, h => cases h; infer_instance
    | 1, h => cases h; infer_instance
    | j + 2, h => simp at h, inferInstance, fun k h => by
    cases h⟩
theorem tf14 : TFact Tryd.prog 14 (.st 2 [(0, 1, false), (1, 1, false)] none) := ⟨inferInstance, fun i off n ag h => by
    match i, h with
    | 0, h => cases h; infer_instance
    | 1, h => cases h; infer_instance
    | j + 2, h => simp at h, inferInstance, fun k h => by
    cases h⟩
theorem tf15 : TFact Tryd.prog 15 (.one) := (inferInstance : TOne Tryd.prog 15)
theorem tf16 : TFact Tryd.prog 16 (.one) := (inferInstance : TOne Tryd.prog 16)
theorem tf17 : TFact Tryd.prog 17 (.one) := (inferInstance : TOne Tryd.prog 17)
theorem tf18 : TFact Tryd.prog 18 (.st 1 [(0, 1, false)] none) := ⟨inferInstance, fun i off n ag h => by
    match i, h with
    | 0, h => cases h; infer_instance
    | j + 1, h => simp at h, inferInstance, fun k h => by
    cases h⟩
theorem tf19 : TFact Tryd.prog 19 (.st 1 [(0, 1, false)] none) := ⟨inferInstance, fun i off n ag h => by
    match i, h with
    | 0, h => cases h; infer_instance
    | j + 1, h => simp at h, inferInstance, fun k h => by
    cases h⟩
theorem tf20 : TFact Tryd.prog 20 (.one) := (inferInstance : TOne Tryd.prog 20)
theorem tf21 : TFact Tryd.prog 21 (.int .i32) := ⟨inferInstance, inferInstance⟩
theorem tf22 : TFact Tryd.prog 22 (.st 2 [(0, 1, false), (1, 1, false)] (some [0, 0])) := ⟨inferInstance, fun i off n ag h => by
    match i, h with
    | 0, h => cases h; infer_instance
    | 1, h => cases h; infer_instance
    | j + 2, h => simp at h, inferInstance, fun k h => by
    cases h; infer_instance⟩
theorem tf23 : TFact Tryd.prog 23 (.st 2 [(0, 1, false), (1, 1, false)] (some [0, 0])) := ⟨inferInstance, fun i off n ag h => by
    match i, h with
    | 0, h => cases h; infer_instance
    | 1, h => cases h; infer_instance
    | j + 2, h => simp at h, inferInstance, fun k h => by
    cases h; infer_instance⟩
theorem tf24 : TFact Tryd.prog 24 (.sl 33 3 32 [.int .i64 0, .int .i64 0, .string ⟨#[]⟩]) := ⟨inferInstance, inferInstance, inferInstance, inferInstance, inferInstance⟩
theorem tf25 : TFact Tryd.prog 25 (.sl 31 2 16 [.int .i64 0, .int .i64 0]) := ⟨inferInstance, inferInstance, inferInstance, inferInstance, inferInstance⟩
theorem tf26 : TFact Tryd.prog 26 (.int .i64) := ⟨inferInstance, inferInstance⟩
theorem tf27 : TFact Tryd.prog 27 (.one) := (inferInstance : TOne Tryd.prog 27)
theorem tf28 : TFact Tryd.prog 28 (.one) := (inferInstance : TOne Tryd.prog 28)
theorem tf29 : TFact Tryd.prog 29 (.one) := (inferInstance : TOne Tryd.prog 29)
theorem tf30 : TFact Tryd.prog 30 (.st 2 [(0, 1, false), (1, 1, false)] (some [0, 0])) := ⟨inferInstance, fun i off n ag h => by
    match i, h with
    | 0, h => cases h; infer_instance
    | 1, h => cases h; infer_instance
    | j + 2, h => simp at h, inferInstance, fun k h => by
    cases h; infer_instance⟩
theorem tf31 : TFact Tryd.prog 31 (.st 2 [(0, 1, false), (1, 1, false)] (some [0, 0])) := ⟨inferInstance, fun i off n ag h => by
    match i, h with
    | 0, h => cases h; infer_instance
    | 1, h => cases h; infer_instance
    | j + 2, h => simp at h, inferInstance, fun k h => by
    cases h; infer_instance⟩
theorem tf32 : TFact Tryd.prog 32 (.st 3 [(0, 1, false), (1, 1, false), (2, 1, false)] (some [0, 0, 1])) := ⟨inferInstance, fun i off n ag h => by
    match i, h with
    | 0, h => cases h; infer_instance
    | 1, h => cases h; infer_instance
    | 2, h => cases h; infer_instance
    | j + 3, h => simp at h, inferInstance, fun k h => by
    cases h; infer_instance⟩
theorem tf33 : TFact Tryd.prog 33 (.st 3 [(0, 1, false), (1, 1, false), (2, 1, false)] (some [0, 0, 1])) := ⟨inferInstance, fun i off n ag h => by
    match i, h with
    | 0, h => cases h; infer_instance
    | 1, h => cases h; infer_instance
    | 2, h => cases h; infer_instance
    | j + 3, h => simp at h, inferInstance, fun k h => by
    cases h; infer_instance⟩
theorem tf34 : TFact Tryd.prog 34 (.sl 3 1 8 [.int .i64 0]) := ⟨inferInstance, inferInstance, inferInstance, inferInstance, inferInstance⟩
theorem tf35 : TFact Tryd.prog 35 (.one) := (inferInstance : TOne Tryd.prog 35)
theorem tf36 : TFact Tryd.prog 36 (.one) := (inferInstance : TOne Tryd.prog 36)
theorem tf37 : TFact Tryd.prog 37 (.one) := (inferInstance : TOne Tryd.prog 37)
theorem tf38 : TFact Tryd.prog 38 (.one) := (inferInstance : TOne Tryd.prog 38)
theorem tf39 : TFact Tryd.prog 39 (.one) := (inferInstance : TOne Tryd.prog 39)
theorem tf40 : TFact Tryd.prog 40 (.one) := (inferInstance : TOne Tryd.prog 40)
theorem tf41 : TFact Tryd.prog 41 (.one) := (inferInstance : TOne Tryd.prog 41)
theorem tf42 : TFact Tryd.prog 42 (.sl 47 2 16 [.int .i64 0, .int .i64 0]) := ⟨inferInstance, inferInstance, inferInstance, inferInstance, inferInstance⟩
theorem tf43 : TFact Tryd.prog 43 (.one) := (inferInstance : TOne Tryd.prog 43)
theorem tf44 : TFact Tryd.prog 44 (.one) := (inferInstance : TOne Tryd.prog 44)
theorem tf45 : TFact Tryd.prog 45 (.one) := (inferInstance : TOne Tryd.prog 45)
theorem tf46 : TFact Tryd.prog 46 (.st 2 [(0, 1, false), (1, 1, false)] (some [0, 0])) := ⟨inferInstance, fun i off n ag h => by
    match i, h with
    | 0, h => cases h; infer_instance
    | 1, h => cases h; infer_instance
    | j + 2, h => simp at h, inferInstance, fun k h => by
    cases h; infer_instance⟩
theorem tf47 : TFact Tryd.prog 47 (.st 2 [(0, 1, false), (1, 1, false)] (some [0, 0])) := ⟨inferInstance, fun i off n ag h => by
    match i, h with
    | 0, h => cases h; infer_instance
    | 1, h => cases h; infer_instance
    | j + 2, h => simp at h, inferInstance, fun k h => by
    cases h; infer_instance⟩
theorem tf48 : TFact Tryd.prog 48 (.one) := (inferInstance : TOne Tryd.prog 48)
theorem tf49 : TFact Tryd.prog 49 (.sl 145 2 40 [.string ⟨#[]⟩, .slice none 0 0]) := ⟨inferInstance, inferInstance, inferInstance, inferInstance, inferInstance⟩
theorem tf50 : TFact Tryd.prog 50 (.sl 58 9 104 [.string ⟨#[]⟩, .string ⟨#[]⟩, .string ⟨#[]⟩, .string ⟨#[]⟩, .int .i64 0, .int .i64 0, .bool false, .int .i64 0, .bool false]) := ⟨inferInstance, inferInstance, inferInstance, inferInstance, inferInstance⟩
theorem tf51 : TFact Tryd.prog 51 (.one) := (inferInstance : TOne Tryd.prog 51)
theorem tf52 : TFact Tryd.prog 52 (.one) := (inferInstance : TOne Tryd.prog 52)
theorem tf53 : TFact Tryd.prog 53 (.one) := (inferInstance : TOne Tryd.prog 53)
theorem tf54 : TFact Tryd.prog 54 (.st 6 [(0, 1, false), (1, 1, false), (2, 1, false), (3, 1, false), (4, 1, false), (5, 1, false)] (some [1, 1, 1, 1, 0, 2])) := ⟨inferInstance, fun i off n ag h => by
    match i, h with
    | 0, h => cases h; infer_instance
    | 1, h => cases h; infer_instance
    | 2, h => cases h; infer_instance
    | 3, h => cases h; infer_instance
    | 4, h => cases h; infer_instance
    | 5, h => cases h; infer_instance
    | j + 6, h => simp at h, inferInstance, fun k h => by
    cases h; infer_instance⟩
theorem tf55 : TFact Tryd.prog 55 (.st 6 [(0, 1, false), (1, 1, false), (2, 1, false), (3, 1, false), (4, 1, false), (5, 1, false)] (some [1, 1, 1, 1, 0, 2])) := ⟨inferInstance, fun i off n ag h => by
    match i, h with
    | 0, h => cases h; infer_instance
    | 1, h => cases h; infer_instance
    | 2, h => cases h; infer_instance
    | 3, h => cases h; infer_instance
    | 4, h => cases h; infer_instance
    | 5, h => cases h; infer_instance
    | j + 6, h => simp at h, inferInstance, fun k h => by
    cases h; infer_instance⟩
theorem tf56 : TFact Tryd.prog 56 (.one) := (inferInstance : TOne Tryd.prog 56)
theorem tf57 : TFact Tryd.prog 57 (.st 9 [(0, 1, false), (1, 1, false), (2, 1, false), (3, 1, false), (4, 1, false), (5, 1, false), (6, 1, false), (7, 1, false), (8, 1, false)] (some [1, 1, 1, 1, 0, 0, 2, 0, 2])) := ⟨inferInstance, fun i off n ag h => by
    match i, h with
    | 0, h => cases h; infer_instance
    | 1, h => cases h; infer_instance
    | 2, h => cases h; infer_instance
    | 3, h => cases h; infer_instance
    | 4, h => cases h; infer_instance
    | 5, h => cases h; infer_instance
    | 6, h => cases h; infer_instance
    | 7, h => cases h; infer_instance
    | 8, h => cases h; infer_instance
    | j + 9, h => simp at h, inferInstance, fun k h => by
    cases h; infer_instance⟩
theorem tf58 : TFact Tryd.prog 58 (.st 9 [(0, 1, false), (1, 1, false), (2, 1, false), (3, 1, false), (4, 1, false), (5, 1, false), (6, 1, false), (7, 1, false), (8, 1, false)] (some [1, 1, 1, 1, 0, 0, 2, 0, 2])) := ⟨inferInstance, fun i off n ag h => by
    match i, h with
    | 0, h => cases h; infer_instance
    | 1, h => cases h; infer_instance
    | 2, h => cases h; infer_instance
    | 3, h => cases h; infer_instance
    | 4, h => cases h; infer_instance
    | 5, h => cases h; infer_instance
    | 6, h => cases h; infer_instance
    | 7, h => cases h; infer_instance
    | 8, h => cases h; infer_instance
    | j + 9, h => simp at h, inferInstance, fun k h => by
    cases h; infer_instance⟩
theorem tf59 : TFact Tryd.prog 59 (.one) := (inferInstance : TOne Tryd.prog 59)
theorem tf60 : TFact Tryd.prog 60 (.sl 5 1 1 [.int .u8 0]) := ⟨inferInstance, inferInstance, inferInstance, inferInstance, inferInstance⟩
theorem tf61 : TFact Tryd.prog 61 (.st 3 [(0, 1, false), (1, 1, false), (2, 1, false)] (some [0, 1, 0])) := ⟨inferInstance, fun i off n ag h => by
    match i, h with
    | 0, h => cases h; infer_instance
    | 1, h => cases h; infer_instance
    | 2, h => cases h; infer_instance
    | j + 3, h => simp at h, inferInstance, fun k h => by
    cases h; infer_instance⟩
theorem tf62 : TFact Tryd.prog 62 (.st 3 [(0, 1, false), (1, 1, false), (2, 1, false)] (some [0, 1, 0])) := ⟨inferInstance, fun i off n ag h => by
    match i, h with
    | 0, h => cases h; infer_instance
    | 1, h => cases h; infer_instance
    | 2, h => cases h; infer_instance
    | j + 3, h => simp at h, inferInstance, fun k h => by
    cases h; infer_instance⟩
theorem tf63 : TFact Tryd.prog 63 (.one) := (inferInstance : TOne Tryd.prog 63)
theorem tf64 : TFact Tryd.prog 64 (.one) := (inferInstance : TOne Tryd.prog 64)
theorem tf65 : TFact Tryd.prog 65 (.one) := (inferInstance : TOne Tryd.prog 65)
theorem tf66 : TFact Tryd.prog 66 (.one) := (inferInstance : TOne Tryd.prog 66)
theorem tf67 : TFact Tryd.prog 67 (.one) := (inferInstance : TOne Tryd.prog 67)
theorem tf68 : TFact Tryd.prog 68 (.one) := (inferInstance : TOne Tryd.prog 68)
theorem tf69 : TFact Tryd.prog 69 (.one) := (inferInstance : TOne Tryd.prog 69)
theorem tf70 : TFact Tryd.prog 70 (.one) := (inferInstance : TOne Tryd.prog 70)
theorem tf71 : TFact Tryd.prog 71 (.mp 3 3 (.int .i64) (.int .i64 0)) := ⟨inferInstance, inferInstance, inferInstance⟩
theorem tf72 : TFact Tryd.prog 72 (.st 9 [(0, 2, true), (2, 1, false), (3, 1, false), (4, 1, false), (5, 1, false), (6, 1, false), (7, 1, false), (8, 1, false)] none) := ⟨inferInstance, fun i off n ag h => by
    match i, h with
    | 0, h => cases h; infer_instance
    | 1, h => cases h; infer_instance
    | 2, h => cases h; infer_instance
    | 3, h => cases h; infer_instance
    | 4, h => cases h; infer_instance
    | 5, h => cases h; infer_instance
    | 6, h => cases h; infer_instance
    | 7, h => cases h; infer_instance
    | j + 8, h => simp at h, inferInstance, fun k h => by
    cases h⟩
theorem tf73 : TFact Tryd.prog 73 (.st 9 [(0, 2, true), (2, 1, false), (3, 1, false), (4, 1, false), (5, 1, false), (6, 1, false), (7, 1, false), (8, 1, false)] none) := ⟨inferInstance, fun i off n ag h => by
    match i, h with
    | 0, h => cases h; infer_instance
    | 1, h => cases h; infer_instance
    | 2, h => cases h; infer_instance
    | 3, h => cases h; infer_instance
    | 4, h => cases h; infer_instance
    | 5, h => cases h; infer_instance
    | 6, h => cases h; infer_instance
    | 7, h => cases h; infer_instance
    | j + 8, h => simp at h, inferInstance, fun k h => by
    cases h⟩
theorem tf74 : TFact Tryd.prog 74 (.one) := (inferInstance : TOne Tryd.prog 74)
theorem tf75 : TFact Tryd.prog 75 (.one) := (inferInstance : TOne Tryd.prog 75)
theorem tf76 : TFact Tryd.prog 76 (.one) := (inferInstance : TOne Tryd.prog 76)
theorem tf77 : TFact Tryd.prog 77 (.sl 86 2 16 [.int .i64 0, .int .i64 0]) := ⟨inferInstance, inferInstance, inferInstance, inferInstance, inferInstance⟩
theorem tf78 : TFact Tryd.prog 78 (.st 8 [(0, 2, true), (2, 1, false), (3, 1, false), (4, 1, false), (5, 1, false), (6, 1, false), (7, 1, false)] none) := ⟨inferInstance, fun i off n ag h => by
    match i, h with
    | 0, h => cases h; infer_instance
    | 1, h => cases h; infer_instance
    | 2, h => cases h; infer_instance
    | 3, h => cases h; infer_instance
    | 4, h => cases h; infer_instance
    | 5, h => cases h; infer_instance
    | 6, h => cases h; infer_instance
    | j + 7, h => simp at h, inferInstance, fun k h => by
    cases h⟩
theorem tf79 : TFact Tryd.prog 79 (.st 8 [(0, 2, true), (2, 1, false), (3, 1, false), (4, 1, false), (5, 1, false), (6, 1, false), (7, 1, false)] none) := ⟨inferInstance, fun i off n ag h => by
    match i, h with
    | 0, h => cases h; infer_instance
    | 1, h => cases h; infer_instance
    | 2, h => cases h; infer_instance
    | 3, h => cases h; infer_instance
    | 4, h => cases h; infer_instance
    | 5, h => cases h; infer_instance
    | 6, h => cases h; infer_instance
    | j + 7, h => simp at h, inferInstance, fun k h => by
    cases h⟩
theorem tf80 : TFact Tryd.prog 80 (.one) := (inferInstance : TOne Tryd.prog 80)
theorem tf81 : TFact Tryd.prog 81 (.one) := (inferInstance : TOne Tryd.prog 81)
theorem tf82 : TFact Tryd.prog 82 (.one) := (inferInstance : TOne Tryd.prog 82)
theorem tf83 : TFact Tryd.prog 83 (.one) := (inferInstance : TOne Tryd.prog 83)
theorem tf84 : TFact Tryd.prog 84 (.one) := (inferInstance : TOne Tryd.prog 84)
theorem tf85 : TFact Tryd.prog 85 (.st 2 [(0, 1, false), (1, 1, false)] (some [0, 0])) := ⟨inferInstance, fun i off n ag h => by
    match i, h with
    | 0, h => cases h; infer_instance
    | 1, h => cases h; infer_instance
    | j + 2, h => simp at h, inferInstance, fun k h => by
    cases h; infer_instance⟩
theorem tf86 : TFact Tryd.prog 86 (.st 2 [(0, 1, false), (1, 1, false)] (some [0, 0])) := ⟨inferInstance, fun i off n ag h => by
    match i, h with
    | 0, h => cases h; infer_instance
    | 1, h => cases h; infer_instance
    | j + 2, h => simp at h, inferInstance, fun k h => by
    cases h; infer_instance⟩
theorem tf87 : TFact Tryd.prog 87 (.one) := (inferInstance : TOne Tryd.prog 87)
theorem tf88 : TFact Tryd.prog 88 (.one) := (inferInstance : TOne Tryd.prog 88)
theorem tf89 : TFact Tryd.prog 89 (.one) := (inferInstance : TOne Tryd.prog 89)
theorem tf90 : TFact Tryd.prog 90 (.one) := (inferInstance : TOne Tryd.prog 90)
theorem tf91 : TFact Tryd.prog 91 (.one) := (inferInstance : TOne Tryd.prog 91)
theorem tf92 : TFact Tryd.prog 92 (.one) := (inferInstance : TOne Tryd.prog 92)
theorem tf93 : TFact Tryd.prog 93 (.one) := (inferInstance : TOne Tryd.prog 93)
theorem tf94 : TFact Tryd.prog 94 (.one) := (inferInstance : TOne Tryd.prog 94)
theorem tf95 : TFact Tryd.prog 95 (.one) := (inferInstance : TOne Tryd.prog 95)
theorem tf96 : TFact Tryd.prog 96 (.one) := (inferInstance : TOne Tryd.prog 96)
theorem tf97 : TFact Tryd.prog 97 (.one) := (inferInstance : TOne Tryd.prog 97)
theorem tf98 : TFact Tryd.prog 98 (.one) := (inferInstance : TOne Tryd.prog 98)
theorem tf99 : TFact Tryd.prog 99 (.one) := (inferInstance : TOne Tryd.prog 99)
theorem tf100 : TFact Tryd.prog 100 (.one) := (inferInstance : TOne Tryd.prog 100)
theorem tf101 : TFact Tryd.prog 101 (.sl 9 1 16 [.string ⟨#[]⟩]) := ⟨inferInstance, inferInstance, inferInstance, inferInstance, inferInstance⟩
theorem tf102 : TFact Tryd.prog 102 (.one) := (inferInstance : TOne Tryd.prog 102)
theorem tf103 : TFact Tryd.prog 103 (.one) := (inferInstance : TOne Tryd.prog 103)
theorem tf104 : TFact Tryd.prog 104 (.one) := (inferInstance : TOne Tryd.prog 104)
theorem tf105 : TFact Tryd.prog 105 (.one) := (inferInstance : TOne Tryd.prog 105)
theorem tf106 : TFact Tryd.prog 106 (.one) := (inferInstance : TOne Tryd.prog 106)
theorem tf107 : TFact Tryd.prog 107 (.one) := (inferInstance : TOne Tryd.prog 107)
theorem tf108 : TFact Tryd.prog 108 (.one) := (inferInstance : TOne Tryd.prog 108)
theorem tf109 : TFact Tryd.prog 109 (.one) := (inferInstance : TOne Tryd.prog 109)
theorem tf110 : TFact Tryd.prog 110 (.one) := (inferInstance : TOne Tryd.prog 110)
theorem tf111 : TFact Tryd.prog 111 (.one) := (inferInstance : TOne Tryd.prog 111)
theorem tf112 : TFact Tryd.prog 112 (.one) := (inferInstance : TOne Tryd.prog 112)
theorem tf113 : TFact Tryd.prog 113 (.one) := (inferInstance : TOne Tryd.prog 113)
theorem tf114 : TFact Tryd.prog 114 (.one) := (inferInstance : TOne Tryd.prog 114)
theorem tf115 : TFact Tryd.prog 115 (.one) := (inferInstance : TOne Tryd.prog 115)
theorem tf116 : TFact Tryd.prog 116 (.one) := (inferInstance : TOne Tryd.prog 116)
theorem tf117 : TFact Tryd.prog 117 (.one) := (inferInstance : TOne Tryd.prog 117)
theorem tf118 : TFact Tryd.prog 118 (.one) := (inferInstance : TOne Tryd.prog 118)
theorem tf119 : TFact Tryd.prog 119 (.one) := (inferInstance : TOne Tryd.prog 119)
theorem tf120 : TFact Tryd.prog 120 (.one) := (inferInstance : TOne Tryd.prog 120)
theorem tf121 : TFact Tryd.prog 121 (.one) := (inferInstance : TOne Tryd.prog 121)
theorem tf122 : TFact Tryd.prog 122 (.one) := (inferInstance : TOne Tryd.prog 122)
theorem tf123 : TFact Tryd.prog 123 (.one) := (inferInstance : TOne Tryd.prog 123)
theorem tf124 : TFact Tryd.prog 124 (.one) := (inferInstance : TOne Tryd.prog 124)
theorem tf125 : TFact Tryd.prog 125 (.one) := (inferInstance : TOne Tryd.prog 125)
theorem tf126 : TFact Tryd.prog 126 (.one) := (inferInstance : TOne Tryd.prog 126)
theorem tf127 : TFact Tryd.prog 127 (.one) := (inferInstance : TOne Tryd.prog 127)
theorem tf128 : TFact Tryd.prog 128 (.one) := (inferInstance : TOne Tryd.prog 128)
theorem tf129 : TFact Tryd.prog 129 (.one) := (inferInstance : TOne Tryd.prog 129)
theorem tf130 : TFact Tryd.prog 130 (.one) := (inferInstance : TOne Tryd.prog 130)
theorem tf131 : TFact Tryd.prog 131 (.one) := (inferInstance : TOne Tryd.prog 131)
theorem tf132 : TFact Tryd.prog 132 (.one) := (inferInstance : TOne Tryd.prog 132)
theorem tf133 : TFact Tryd.prog 133 (.one) := (inferInstance : TOne Tryd.prog 133)
theorem tf134 : TFact Tryd.prog 134 (.one) := (inferInstance : TOne Tryd.prog 134)
theorem tf135 : TFact Tryd.prog 135 (.one) := (inferInstance : TOne Tryd.prog 135)
theorem tf138 : TFact Tryd.prog 138 (.one) := (inferInstance : TOne Tryd.prog 138)
theorem tf139 : TFact Tryd.prog 139 (.one) := (inferInstance : TOne Tryd.prog 139)
theorem tf140 : TFact Tryd.prog 140 (.one) := (inferInstance : TOne Tryd.prog 140)
theorem tf141 : TFact Tryd.prog 141 (.one) := (inferInstance : TOne Tryd.prog 141)
theorem tf142 : TFact Tryd.prog 142 (.mp 147 4 (.st [1, 1]) (.bool false)) := ⟨inferInstance, inferInstance, inferInstance⟩
theorem tf143 : TFact Tryd.prog 143 (.sl 147 2 32 [.string ⟨#[]⟩, .string ⟨#[]⟩]) := ⟨inferInstance, inferInstance, inferInstance, inferInstance, inferInstance⟩
theorem tf144 : TFact Tryd.prog 144 (.st 2 [(0, 1, false), (1, 1, false)] none) := ⟨inferInstance, fun i off n ag h => by
    match i, h with
    | 0, h => cases h; infer_instance
    | 1, h => cases h; infer_instance
    | j + 2, h => simp at h, inferInstance, fun k h => by
    cases h⟩
theorem tf145 : TFact Tryd.prog 145 (.st 2 [(0, 1, false), (1, 1, false)] none) := ⟨inferInstance, fun i off n ag h => by
    match i, h with
    | 0, h => cases h; infer_instance
    | 1, h => cases h; infer_instance
    | j + 2, h => simp at h, inferInstance, fun k h => by
    cases h⟩
theorem tf146 : TFact Tryd.prog 146 (.st 2 [(0, 1, false), (1, 1, false)] (some [1, 1])) := ⟨inferInstance, fun i off n ag h => by
    match i, h with
    | 0, h => cases h; infer_instance
    | 1, h => cases h; infer_instance
    | j + 2, h => simp at h, inferInstance, fun k h => by
    cases h; infer_instance⟩
theorem tf147 : TFact Tryd.prog 147 (.st 2 [(0, 1, false), (1, 1, false)] (some [1, 1])) := ⟨inferInstance, fun i off n ag h => by
    match i, h with
    | 0, h => cases h; infer_instance
    | 1, h => cases h; infer_instance
    | j + 2, h => simp at h, inferInstance, fun k h => by
    cases h; infer_instance⟩
theorem tf148 : TFact Tryd.prog 148 (.one) := (inferInstance : TOne Tryd.prog 148)
theorem tf149 : TFact Tryd.prog 149 (.one) := (inferInstance : TOne Tryd.prog 149)
theorem tf150 : TFact Tryd.prog 150 (.one) := (inferInstance : TOne Tryd.prog 150)
theorem tf151 : TFact Tryd.prog 151 (.one) := (inferInstance : TOne Tryd.prog 151)
theorem tf152 : TFact Tryd.prog 152 (.one) := (inferInstance : TOne Tryd.prog 152)
theorem tf153 : TFact Tryd.prog 153 (.one) := (inferInstance : TOne Tryd.prog 153)
theorem tf154 : TFact Tryd.prog 154 (.one) := (inferInstance : TOne Tryd.prog 154)
theorem tf155 : TFact Tryd.prog 155 (.one) := (inferInstance : TOne Tryd.prog 155)
theorem tf156 : TFact Tryd.prog 156 (.int .u64) := ⟨inferInstance, inferInstance⟩
theorem tf157 : TFact Tryd.prog 157 (.one) := (inferInstance : TOne Tryd.prog 157)
theorem tf158 : TFact Tryd.prog 158 (.one) := (inferInstance : TOne Tryd.prog 158)
theorem tf159 : TFact Tryd.prog 159 (.sl 60 1 24 [.slice none 0 0]) := ⟨inferInstance, inferInstance, inferInstance, inferInstance, inferInstance⟩
theorem tf160 : TFact Tryd.prog 160 (.one) := (inferInstance : TOne Tryd.prog 160)
theorem tf161 : TFact Tryd.prog 161 (.one) := (inferInstance : TOne Tryd.prog 161)
theorem tf162 : TFact Tryd.prog 162 (.one) := (inferInstance : TOne Tryd.prog 162)
theorem tf163 : TFact Tryd.prog 163 (.one) := (inferInstance : TOne Tryd.prog 163)
theorem tf164 : TFact Tryd.prog 164 (.one) := (inferInstance : TOne Tryd.prog 164)
theorem tf165 : TFact Tryd.prog 165 (.one) := (inferInstance : TOne Tryd.prog 165)
theorem tf166 : TFact Tryd.prog 166 (.one) := (inferInstance : TOne Tryd.prog 166)
theorem tf167 : TFact Tryd.prog 167 (.one) := (inferInstance : TOne Tryd.prog 167)
theorem tf168 : TFact Tryd.prog 168 (.one) := (inferInstance : TOne Tryd.prog 168)
theorem tf169 : TFact Tryd.prog 169 (.one) := (inferInstance : TOne Tryd.prog 169)
theorem tf170 : TFact Tryd.prog 170 (.one) := (inferInstance : TOne Tryd.prog 170)
theorem tf171 : TFact Tryd.prog 171 (.int .u64) := ⟨inferInstance, inferInstance⟩
theorem tf172 : TFact Tryd.prog 172 (.one) := (inferInstance : TOne Tryd.prog 172)
theorem tf173 : TFact Tryd.prog 173 (.one) := (inferInstance : TOne Tryd.prog 173)
theorem tf174 : TFact Tryd.prog 174 (.one) := (inferInstance : TOne Tryd.prog 174)
theorem tf175 : TFact Tryd.prog 175 (.one) := (inferInstance : TOne Tryd.prog 175)
theorem tf176 : TFact Tryd.prog 176 (.one) := (inferInstance : TOne Tryd.prog 176)
theorem tf177 : TFact Tryd.prog 177 (.one) := (inferInstance : TOne Tryd.prog 177)
theorem tf178 : TFact Tryd.prog 178 (.one) := (inferInstance : TOne Tryd.prog 178)
theorem tf179 : TFact Tryd.prog 179 (.st 2 [(0, 1, false), (1, 1, false)] none) := ⟨inferInstance, fun i off n ag h => by
    match i, h with
    | 0, h => cases h; infer_instance
    | 1, h => cases h; infer_instance
    | j + 2, h => simp at h, inferInstance, fun k h => by
    cases h⟩
theorem tf180 : TFact Tryd.prog 180 (.st 2 [(0, 1, false), (1, 1, false)] none) := ⟨inferInstance, fun i off n ag h => by
    match i, h with
    | 0, h => cases h; infer_instance
    | 1, h => cases h; infer_instance
    | j + 2, h => simp at h, inferInstance, fun k h => by
    cases h⟩
theorem tf181 : TFact Tryd.prog 181 (.one) := (inferInstance : TOne Tryd.prog 181)
theorem tf182 : TFact Tryd.prog 182 (.one) := (inferInstance : TOne Tryd.prog 182)
theorem tf183 : TFact Tryd.prog 183 (.int .i64) := ⟨inferInstance, inferInstance⟩
theorem tf184 : TFact Tryd.prog 184 (.one) := (inferInstance : TOne Tryd.prog 184)
theorem tf185 : TFact Tryd.prog 185 (.one) := (inferInstance : TOne Tryd.prog 185)
theorem tf186 : TFact Tryd.prog 186 (.one) := (inferInstance : TOne Tryd.prog 186)
theorem tf187 : TFact Tryd.prog 187 (.one) := (inferInstance : TOne Tryd.prog 187)
theorem tf188 : TFact Tryd.prog 188 (.one) := (inferInstance : TOne Tryd.prog 188)
theorem tf189 : TFact Tryd.prog 189 (.one) := (inferInstance : TOne Tryd.prog 189)
theorem tf190 : TFact Tryd.prog 190 (.one) := (inferInstance : TOne Tryd.prog 190)
theorem tf191 : TFact Tryd.prog 191 (.int .i64) := ⟨inferInstance, inferInstance⟩
theorem tf192 : TFact Tryd.prog 192 (.one) := (inferInstance : TOne Tryd.prog 192)
theorem tf193 : TFact Tryd.prog 193 (.one) := (inferInstance : TOne Tryd.prog 193)
theorem tf194 : TFact Tryd.prog 194 (.one) := (inferInstance : TOne Tryd.prog 194)
theorem tf195 : TFact Tryd.prog 195 (.one) := (inferInstance : TOne Tryd.prog 195)
theorem tf196 : TFact Tryd.prog 196 (.one) := (inferInstance : TOne Tryd.prog 196)
theorem tf197 : TFact Tryd.prog 197 (.one) := (inferInstance : TOne Tryd.prog 197)
theorem tf198 : TFact Tryd.prog 198 (.one) := (inferInstance : TOne Tryd.prog 198)
theorem tf199 : TFact Tryd.prog 199 (.int .u32) := ⟨inferInstance, inferInstance⟩
theorem tf200 : TFact Tryd.prog 200 (.one) := (inferInstance : TOne Tryd.prog 200)
theorem tf202 : TFact Tryd.prog 202 (.one) := (inferInstance : TOne Tryd.prog 202)
theorem tf203 : TFact Tryd.prog 203 (.one) := (inferInstance : TOne Tryd.prog 203)
theorem tf204 : TFact Tryd.prog 204 (.one) := (inferInstance : TOne Tryd.prog 204)
theorem tf205 : TFact Tryd.prog 205 (.one) := (inferInstance : TOne Tryd.prog 205)
theorem tf206 : TFact Tryd.prog 206 (.one) := (inferInstance : TOne Tryd.prog 206)
theorem tf207 : TFact Tryd.prog 207 (.one) := (inferInstance : TOne Tryd.prog 207)
theorem tf208 : TFact Tryd.prog 208 (.one) := (inferInstance : TOne Tryd.prog 208)
theorem tf209 : TFact Tryd.prog 209 (.one) := (inferInstance : TOne Tryd.prog 209)
theorem tf210 : TFact Tryd.prog 210 (.one) := (inferInstance : TOne Tryd.prog 210)
theorem tf211 : TFact Tryd.prog 211 (.one) := (inferInstance : TOne Tryd.prog 211)
theorem tf212 : TFact Tryd.prog 212 (.one) := (inferInstance : TOne Tryd.prog 212)
theorem tf213 : TFact Tryd.prog 213 (.one) := (inferInstance : TOne Tryd.prog 213)
theorem tf214 : TFact Tryd.prog 214 (.one) := (inferInstance : TOne Tryd.prog 214)
theorem tf215 : TFact Tryd.prog 215 (.st 3 [(0, 1, false), (1, 1, false), (2, 1, false)] none) := ⟨inferInstance, fun i off n ag h => by
    match i, h with
    | 0, h => cases h; infer_instance
    | 1, h => cases h; infer_instance
    | 2, h => cases h; infer_instance
    | j + 3, h => simp at h, inferInstance, fun k h => by
    cases h⟩
theorem tf216 : TFact Tryd.prog 216 (.st 3 [(0, 1, false), (1, 1, false), (2, 1, false)] none) := ⟨inferInstance, fun i off n ag h => by
    match i, h with
    | 0, h => cases h; infer_instance
    | 1, h => cases h; infer_instance
    | 2, h => cases h; infer_instance
    | j + 3, h => simp at h, inferInstance, fun k h => by
    cases h⟩
theorem tf217 : TFact Tryd.prog 217 (.one) := (inferInstance : TOne Tryd.prog 217)
theorem tf219 : TFact Tryd.prog 219 (.st 2 [(0, 1, false), (1, 1, false)] (some [0, 0])) := ⟨inferInstance, fun i off n ag h => by
    match i, h with
    | 0, h => cases h; infer_instance
    | 1, h => cases h; infer_instance
    | j + 2, h => simp at h, inferInstance, fun k h => by
    cases h; infer_instance⟩
theorem tf220 : TFact Tryd.prog 220 (.st 2 [(0, 1, false), (1, 1, false)] (some [0, 0])) := ⟨inferInstance, fun i off n ag h => by
    match i, h with
    | 0, h => cases h; infer_instance
    | 1, h => cases h; infer_instance
    | j + 2, h => simp at h, inferInstance, fun k h => by
    cases h; infer_instance⟩
theorem tf222 : TFact Tryd.prog 222 (.one) := (inferInstance : TOne Tryd.prog 222)
theorem tf223 : TFact Tryd.prog 223 (.int .u64) := ⟨inferInstance, inferInstance⟩
theorem tf224 : TFact Tryd.prog 224 (.one) := (inferInstance : TOne Tryd.prog 224)
theorem tf225 : TFact Tryd.prog 225 (.one) := (inferInstance : TOne Tryd.prog 225)
theorem tf226 : TFact Tryd.prog 226 (.one) := (inferInstance : TOne Tryd.prog 226)
theorem tf227 : TFact Tryd.prog 227 (.one) := (inferInstance : TOne Tryd.prog 227)
theorem tf228 : TFact Tryd.prog 228 (.one) := (inferInstance : TOne Tryd.prog 228)
theorem tf231 : TFact Tryd.prog 231 (.one) := (inferInstance : TOne Tryd.prog 231)
theorem tf232 : TFact Tryd.prog 232 (.one) := (inferInstance : TOne Tryd.prog 232)
theorem tf233 : TFact Tryd.prog 233 (.one) := (inferInstance : TOne Tryd.prog 233)
theorem tf234 : TFact Tryd.prog 234 (.one) := (inferInstance : TOne Tryd.prog 234)
theorem tf235 : TFact Tryd.prog 235 (.one) := (inferInstance : TOne Tryd.prog 235)
theorem tf236 : TFact Tryd.prog 236 (.st 1 [(0, 1, false)] (some [1])) := ⟨inferInstance, fun i off n ag h => by
    match i, h with
    | 0, h => cases h; infer_instance
    | j + 1, h => simp at h, inferInstance, fun k h => by
    cases h; infer_instance⟩
theorem tf237 : TFact Tryd.prog 237 (.st 1 [(0, 1, false)] (some [1])) := ⟨inferInstance, fun i off n ag h => by
    match i, h with
    | 0, h => cases h; infer_instance
    | j + 1, h => simp at h, inferInstance, fun k h => by
    cases h; infer_instance⟩
theorem tf238 : TFact Tryd.prog 238 (.one) := (inferInstance : TOne Tryd.prog 238)
theorem tf239 : TFact Tryd.prog 239 (.one) := (inferInstance : TOne Tryd.prog 239)
theorem tf240 : TFact Tryd.prog 240 (.one) := (inferInstance : TOne Tryd.prog 240)
theorem tf241 : TFact Tryd.prog 241 (.one) := (inferInstance : TOne Tryd.prog 241)
theorem tf244 : TFact Tryd.prog 244 (.st 4 [(0, 1, false), (1, 1, false), (2, 1, false), (3, 1, false)] none) := ⟨inferInstance, fun i off n ag h => by
    match i, h with
    | 0, h => cases h; infer_instance
    | 1, h => cases h; infer_instance
    | 2, h => cases h; infer_instance
    | 3, h => cases h; infer_instance
    | j + 4, h => simp at h, inferInstance, fun k h => by
    cases h⟩
theorem tf245 : TFact Tryd.prog 245 (.st 4 [(0, 1, false), (1, 1, false), (2, 1, false), (3, 1, false)] none) := ⟨inferInstance, fun i off n ag h => by
    match i, h with
    | 0, h => cases h; infer_instance
    | 1, h => cases h; infer_instance
    | 2, h => cases h; infer_instance
    | 3, h => cases h; infer_instance
    | j + 4, h => simp at h, inferInstance, fun k h => by
    cases h⟩
theorem tf249 : TFact Tryd.prog 249 (.int .u8) := ⟨inferInstance, inferInstance⟩
theorem tf250 : TFact Tryd.prog 250 (.int .u8) := ⟨inferInstance, inferInstance⟩
theorem tf251 : TFact Tryd.prog 251 (.one) := (inferInstance : TOne Tryd.prog 251)
theorem tf252 : TFact Tryd.prog 252 (.int .i32) := ⟨inferInstance, inferInstance⟩
theorem tf253 : TFact Tryd.prog 253 (.int .i32) := ⟨inferInstance, inferInstance⟩
theorem tf254 : TFact Tryd.prog 254 (.st 11 [(0, 1, false), (1, 1, false), (2, 1, false), (3, 1, false), (4, 1, false), (5, 1, false), (6, 1, false), (7, 1, false), (8, 1, false), (9, 1, false), (10, 1, false)] none) := ⟨inferInstance, fun i off n ag h => by
    match i, h with
    | 0, h => cases h; infer_instance
    | 1, h => cases h; infer_instance
    | 2, h => cases h; infer_instance
    | 3, h => cases h; infer_instance
    | 4, h => cases h; infer_instance
    | 5, h => cases h; infer_instance
    | 6, h => cases h; infer_instance
    | 7, h => cases h; infer_instance
    | 8, h => cases h; infer_instance
    | 9, h => cases h; infer_instance
    | 10, h => cases h; infer_instance
    | j + 11, h => simp at h, inferInstance, fun k h => by
    cases h⟩
theorem tf255 : TFact Tryd.prog 255 (.st 11 [(0, 1, false), (1, 1, false), (2, 1, false), (3, 1, false), (4, 1, false), (5, 1, false), (6, 1, false), (7, 1, false), (8, 1, false), (9, 1, false), (10, 1, false)] none) := ⟨inferInstance, fun i off n ag h => by
    match i, h with
    | 0, h => cases h; infer_instance
    | 1, h => cases h; infer_instance
    | 2, h => cases h; infer_instance
    | 3, h => cases h; infer_instance
    | 4, h => cases h; infer_instance
    | 5, h => cases h; infer_instance
    | 6, h => cases h; infer_instance
    | 7, h => cases h; infer_instance
    | 8, h => cases h; infer_instance
    | 9, h => cases h; infer_instance
    | 10, h => cases h; infer_instance
    | j + 11, h => simp at h, inferInstance, fun k h => by
    cases h⟩
def TAB : List (Nat × TI) := [(0, .one), (1, .one), (2, .int .i64), (3, .int .i64), (4, .bool), (5, .int .u8), (6, .int .u8), (7, .st 4 [(0, 1, false), (1, 1, false), (2, 1, false), (3, 1, false)] (some [0, 0, 2, 0])), (8, .st 4 [(0, 1, false), (1, 1, false), (2, 1, false), (3, 1, false)] (some [0, 0, 2, 0])), (9, .str), (10, .str), (11, .str), (12, .int .u64), (13, .st 2 [(0, 1, false), (1, 1, false)] none), (14, .st 2 [(0, 1, false), (1, 1, false)] none), (15, .one), (16, .one), (17, .one), (18, .st 1 [(0, 1, false)] none), (19, .st 1 [(0, 1, false)] none), (20, .one), (21, .int .i32), (22, .st 2 [(0, 1, false), (1, 1, false)] (some [0, 0])), (23, .st 2 [(0, 1, false), (1, 1, false)] (some [0, 0])), (24, .sl 33 3 32 [.int .i64 0, .int .i64 0, .string ⟨#[]⟩]), (25, .sl 31 2 16 [.int .i64 0, .int .i64 0]), (26, .int .i64), (27, .one), (28, .one), (29, .one), (30, .st 2 [(0, 1, false), (1, 1, false)] (some [0, 0])), (31, .st 2 [(0, 1, false), (1, 1, false)] (some [0, 0])), (32, .st 3 [(0, 1, false), (1, 1, false), (2, 1, false)] (some [0, 0, 1])), (33, .st 3 [(0, 1, false), (1, 1, false), (2, 1, false)] (some [0, 0, 1])), (34, .sl 3 1 8 [.int .i64 0]), (35, .one), (36, .one), (37, .one), (38, .one), (39, .one), (40, .one), (41, .one), (42, .sl 47 2 16 [.int .i64 0, .int .i64 0]), (43, .one), (44, .one), (45, .one), (46, .st 2 [(0, 1, false), (1, 1, false)] (some [0, 0])), (47, .st 2 [(0, 1, false), (1, 1, false)] (some [0, 0])), (48, .one), (49, .sl 145 2 40 [.string ⟨#[]⟩, .slice none 0 0]), (50, .sl 58 9 104 [.string ⟨#[]⟩, .string ⟨#[]⟩, .string ⟨#[]⟩, .string ⟨#[]⟩, .int .i64 0, .int .i64 0, .bool false, .int .i64 0, .bool false]), (51, .one), (52, .one), (53, .one), (54, .st 6 [(0, 1, false), (1, 1, false), (2, 1, false), (3, 1, false), (4, 1, false), (5, 1, false)] (some [1, 1, 1, 1, 0, 2])), (55, .st 6 [(0, 1, false), (1, 1, false), (2, 1, false), (3, 1, false), (4, 1, false), (5, 1, false)] (some [1, 1, 1, 1, 0, 2])), (56, .one), (57, .st 9 [(0, 1, false), (1, 1, false), (2, 1, false), (3, 1, false), (4, 1, false), (5, 1, false), (6, 1, false), (7, 1, false), (8, 1, false)] (some [1, 1, 1, 1, 0, 0, 2, 0, 2])), (58, .st 9 [(0, 1, false), (1, 1, false), (2, 1, false), (3, 1, false), (4, 1, false), (5, 1, false), (6, 1, false), (7, 1, false), (8, 1, false)] (some [1, 1, 1, 1, 0, 0, 2, 0, 2])), (59, .one), (60, .sl 5 1 1 [.int .u8 0]), (61, .st 3 [(0, 1, false), (1, 1, false), (2, 1, false)] (some [0, 1, 0])), (62, .st 3 [(0, 1, false), (1, 1, false), (2, 1, false)] (some [0, 1, 0])), (63, .one), (64, .one), (65, .one), (66, .one), (67, .one), (68, .one), (69, .one), (70, .one), (71, .mp 3 3 (.int .i64) (.int .i64 0)), (72, .st 9 [(0, 2, true), (2, 1, false), (3, 1, false), (4, 1, false), (5, 1, false), (6, 1, false), (7, 1, false), (8, 1, false)] none), (73, .st 9 [(0, 2, true), (2, 1, false), (3, 1, false), (4, 1, false), (5, 1, false), (6, 1, false), (7, 1, false), (8, 1, false)] none), (74, .one), (75, .one), (76, .one), (77, .sl 86 2 16 [.int .i64 0, .int .i64 0]), (78, .st 8 [(0, 2, true), (2, 1, false), (3, 1, false), (4, 1, false), (5, 1, false), (6, 1, false), (7, 1, false)] none), (79, .st 8 [(0, 2, true), (2, 1, false), (3, 1, false), (4, 1, false), (5, 1, false), (6, 1, false), (7, 1, false)] none), (80, .one), (81, .one), (82, .one), (83, .one), (84, .one), (85, .st 2 [(0, 1, false), (1, 1, false)] (some [0, 0])), (86, .st 2 [(0, 1, false), (1, 1, false)] (some [0, 0])), (87, .one), (88, .one), (89, .one), (90, .one), (91, .one), (92, .one), (93, .one), (94, .one), (95, .one), (96, .one), (97, .one), (98, .one), (99, .one), (100, .one), (101, .sl 9 1 16 [.string ⟨#[]⟩]), (102, .one), (103, .one), (104, .one), (105, .one), (106, .one), (107, .one), (108, .one), (109, .one), (110, .one), (111, .one), (112, .one), (113, .one), (114, .one), (115, .one), (116, .one), (117, .one), (118, .one), (119, .one), (120, .one), (121, .one), (122, .one), (123, .one), (124, .one), (125, .one), (126, .one), (127, .one), (128, .one), (129, .one), (130, .one), (131, .one), (132, .one), (133, .one), (134, .one), (135, .one), (138, .one), (139, .one), (140, .one), (141, .one), (142, .mp 147 4 (.st [1, 1]) (.bool false)), (143, .sl 147 2 32 [.string ⟨#[]⟩, .string ⟨#[]⟩]), (144, .st 2 [(0, 1, false), (1, 1, false)] none), (145, .st 2 [(0, 1, false), (1, 1, false)] none), (146, .st 2 [(0, 1, false), (1, 1, false)] (some [1, 1])), (147, .st 2 [(0, 1, false), (1, 1, false)] (some [1, 1])), (148, .one), (149, .one), (150, .one), (151, .one), (152, .one), (153, .one), (154, .one), (155, .one), (156, .int .u64), (157, .one), (158, .one), (159, .sl 60 1 24 [.slice none 0 0]), (160, .one), (161, .one), (162, .one), (163, .one), (164, .one), (165, .one), (166, .one), (167, .one), (168, .one), (169, .one), (170, .one), (171, .int .u64), (172, .one), (173, .one), (174, .one), (175, .one), (176, .one), (177, .one), (178, .one), (179, .st 2 [(0, 1, false), (1, 1, false)] none), (180, .st 2 [(0, 1, false), (1, 1, false)] none), (181, .one), (182, .one), (183, .int .i64), (184, .one), (185, .one), (186, .one), (187, .one), (188, .one), (189, .one), (190, .one), (191, .int .i64), (192, .one), (193, .one), (194, .one), (195, .one), (196, .one), (197, .one), (198, .one), (199, .int .u32), (200, .one), (202, .one), (203, .one), (204, .one), (205, .one), (206, .one), (207, .one), (208, .one), (209, .one), (210, .one), (211, .one), (212, .one), (213, .one), (214, .one), (215, .st 3 [(0, 1, false), (1, 1, false), (2, 1, false)] none), (216, .st 3 [(0, 1, false), (1, 1, false), (2, 1, false)] none), (217, .one), (219, .st 2 [(0, 1, false), (1, 1, false)] (some [0, 0])), (220, .st 2 [(0, 1, false), (1, 1, false)] (some [0, 0])), (222, .one), (223, .int .u64), (224, .one), (225, .one), (226, .one), (227, .one), (228, .one), (231, .one), (232, .one), (233, .one), (234, .one), (235, .one), (236, .st 1 [(0, 1, false)] (some [1])), (237, .st 1 [(0, 1, false)] (some [1])), (238, .one), (239, .one), (240, .one), (241, .one), (244, .st 4 [(0, 1, false), (1, 1, false), (2, 1, false), (3, 1, false)] none), (245, .st 4 [(0, 1, false), (1, 1, false), (2, 1, false), (3, 1, false)] none), (249, .int .u8), (250, .int .u8), (251, .one), (252, .int .i32), (253, .int .i32), (254, .st 11 [(0, 1, false), (1, 1, false), (2, 1, false), (3, 1, false), (4, 1, false), (5, 1, false), (6, 1, false), (7, 1, false), (8, 1, false), (9, 1, false), (10, 1, false)] none), (255, .st 11 [(0, 1, false), (1, 1, false), (2, 1, false), (3, 1, false), (4, 1, false), (5, 1, false), (6, 1, false), (7, 1, false), (8, 1, false), (9, 1, false), (10, 1, false)] none)]
def ZAB : List (Nat × List Value) := [(1, [.nilFunc]), (2, [.int .i64 0]), (3, [.int .i64 0]), (4, [.bool false]), (5, [.int .u8 0]), (6, [.int .u8 0]), (7, [.int .i64 0, .int .i64 0, .bool false, .int .u8 0]), (8, [.int .i64 0, .int .i64 0, .bool false, .int .u8 0]), (9, [.string ⟨#[]⟩]), (10, [.string ⟨#[]⟩]), (11, [.string ⟨#[]⟩]), (12, [.int .u64 0]), (13, [.string ⟨#[]⟩, .int .u64 0]), (14, [.string ⟨#[]⟩, .int .u64 0]), (15, [.pointer none]), (16, [.pointer none]), (17, [.pointer none]), (18, [.pointer none]), (19, [.pointer none]), (20, [.nilIface]), (21, [.int .i32 0]), (22, [.int .i64 0, .int .i64 0]), (23, [.int .i64 0, .int .i64 0]), (24, [.slice none 0 0]), (25, [.slice none 0 0]), (26, [.int .i64 0]), (28, [.nilFunc]), (29, [.nilFunc]), (30, [.int .i64 0, .int .i64 0]), (31, [.int .i64 0, .int .i64 0]), (32, [.int .i64 0, .int .i64 0, .string ⟨#[]⟩]), (33, [.int .i64 0, .int .i64 0, .string ⟨#[]⟩]), (34, [.slice none 0 0]), (36, [.nilFunc]), (37, [.nilFunc]), (38, [.nilFunc]), (39, [.nilFunc]), (40, [.nilFunc]), (41, [.nilFunc]), (42, [.slice none 0 0]), (44, [.nilFunc]), (45, [.nilFunc]), (46, [.int .i64 0, .int .i64 0]), (47, [.int .i64 0, .int .i64 0]), (48, [.nilFunc]), (49, [.slice none 0 0]), (50, [.slice none 0 0]), (51, [.nilFunc]), (53, [.nilFunc]), (54, [.string ⟨#[]⟩, .string ⟨#[]⟩, .string ⟨#[]⟩, .string ⟨#[]⟩, .int .i64 0, .bool false]), (55, [.string ⟨#[]⟩, .string ⟨#[]⟩, .string ⟨#[]⟩, .string ⟨#[]⟩, .int .i64 0, .bool false]), (56, [.nilFunc]), (57, [.string ⟨#[]⟩, .string ⟨#[]⟩, .string ⟨#[]⟩, .string ⟨#[]⟩, .int .i64 0, .int .i64 0, .bool false, .int .i64 0, .bool false]), (58, [.string ⟨#[]⟩, .string ⟨#[]⟩, .string ⟨#[]⟩, .string ⟨#[]⟩, .int .i64 0, .int .i64 0, .bool false, .int .i64 0, .bool false]), (59, [.nilFunc]), (60, [.slice none 0 0]), (61, [.int .i64 0, .string ⟨#[]⟩, .int .i64 0]), (62, [.int .i64 0, .string ⟨#[]⟩, .int .i64 0]), (64, [.nilFunc]), (66, [.nilFunc]), (67, [.nilFunc]), (68, [.pointer none]), (70, [.nilFunc]), (71, [.map none]), (72, [.int .i64 0, .int .i64 0, .int .i64 0, .slice none 0 0, .int .i64 0, .map none, .map none, .slice none 0 0, .slice none 0 0]), (73, [.int .i64 0, .int .i64 0, .int .i64 0, .slice none 0 0, .int .i64 0, .map none, .map none, .slice none 0 0, .slice none 0 0]), (75, [.nilFunc]), (76, [.nilFunc]), (77, [.slice none 0 0]), (78, [.int .i64 0, .int .i64 0, .int .i64 0, .slice none 0 0, .slice none 0 0, .int .i64 0, .slice none 0 0, .slice none 0 0]), (79, [.int .i64 0, .int .i64 0, .int .i64 0, .slice none 0 0, .slice none 0 0, .int .i64 0, .slice none 0 0, .slice none 0 0]), (80, [.pointer none]), (81, [.nilFunc]), (82, [.nilFunc]), (83, [.nilFunc]), (84, [.nilFunc]), (85, [.int .i64 0, .int .i64 0]), (86, [.int .i64 0, .int .i64 0]), (87, [.nilFunc]), (88, [.nilFunc]), (89, [.nilFunc]), (90, [.nilFunc]), (91, [.nilFunc]), (92, [.nilFunc]), (93, [.nilFunc]), (94, [.nilFunc]), (95, [.nilFunc]), (96, [.nilFunc]), (97, [.nilFunc]), (98, [.nilFunc]), (99, [.nilFunc]), (100, [.nilFunc]), (101, [.slice none 0 0]), (103, [.nilFunc]), (105, [.nilFunc]), (106, [.nilFunc]), (107, [.nilFunc]), (108, [.nilFunc]), (109, [.nilFunc]), (110, [.nilFunc]), (111, [.nilFunc]), (112, [.nilFunc]), (113, [.nilFunc]), (114, [.nilFunc]), (115, [.nilFunc]), (116, [.nilFunc]), (117, [.nilFunc]), (118, [.nilFunc]), (119, [.nilFunc]), (120, [.nilFunc]), (121, [.nilFunc]), (122, [.nilFunc]), (123, [.nilFunc]), (124, [.nilIface]), (125, [.nilIface]), (127, [.nilFunc]), (128, [.nilFunc]), (129, [.nilFunc]), (130, [.pointer none]), (131, [.nilFunc]), (132, [.nilFunc]), (133, [.nilFunc]), (134, [.nilFunc]), (135, [.nilFunc]), (139, [.nilFunc]), (140, [.nilFunc]), (141, [.pointer none]), (142, [.map none]), (143, [.slice none 0 0]), (144, [.string ⟨#[]⟩, .slice none 0 0]), (145, [.string ⟨#[]⟩, .slice none 0 0]), (146, [.string ⟨#[]⟩, .string ⟨#[]⟩]), (147, [.string ⟨#[]⟩, .string ⟨#[]⟩]), (148, [.nilFunc]), (149, [.nilFunc]), (150, [.nilFunc]), (151, [.nilFunc]), (152, [.nilFunc]), (153, [.nilFunc]), (154, [.nilFunc]), (155, [.nilFunc]), (156, [.int .u64 0]), (157, [.nilFunc]), (158, [.nilFunc]), (159, [.slice none 0 0]), (160, [.nilFunc]), (161, [.nilFunc]), (162, [.nilFunc]), (163, [.nilFunc]), (164, [.nilFunc]), (165, [.nilFunc]), (166, [.nilFunc]), (167, [.nilFunc]), (169, [.nilFunc]), (170, [.nilFunc]), (171, [.int .u64 0]), (172, [.nilFunc]), (173, [.nilFunc]), (174, [.nilFunc]), (176, [.nilFunc]), (177, [.nilFunc]), (178, [.pointer none]), (179, [.pointer none, .slice none 0 0]), (180, [.pointer none, .slice none 0 0]), (181, [.nilFunc]), (182, [.nilFunc]), (183, [.int .i64 0]), (185, [.nilFunc]), (186, [.pointer none]), (187, [.nilFunc]), (188, [.nilFunc]), (189, [.nilFunc]), (190, [.nilFunc]), (191, [.int .i64 0]), (193, [.nilFunc]), (194, [.nilFunc]), (195, [.nilFunc]), (196, [.nilFunc]), (197, [.nilFunc]), (198, [.nilFunc]), (199, [.int .u32 0]), (200, [.nilFunc]), (202, [.nilFunc]), (204, [.nilFunc]), (206, [.nilFunc]), (208, [.nilFunc]), (209, [.pointer none]), (210, [.nilFunc]), (211, [.nilFunc]), (213, [.nilFunc]), (214, [.nilFunc]), (215, [.string ⟨#[]⟩, .string ⟨#[]⟩, .nilIface]), (216, [.string ⟨#[]⟩, .string ⟨#[]⟩, .nilIface]), (217, [.nilFunc]), (219, [.int .u8 0, .int .u8 0]), (220, [.int .u8 0, .int .u8 0]), (222, [.nilFunc]), (223, [.int .u64 0]), (224, [.nilFunc]), (225, [.nilFunc]), (226, [.nilFunc]), (227, [.pointer none]), (228, [.nilFunc]), (232, [.nilFunc]), (233, [.nilFunc]), (234, [.nilFunc]), (235, [.pointer none]), (236, [.string ⟨#[]⟩]), (237, [.string ⟨#[]⟩]), (238, [.pointer none]), (240, [.nilFunc]), (241, [.nilFunc]), (244, [.pointer none, .pointer none, .pointer none, .string ⟨#[]⟩]), (245, [.pointer none, .pointer none, .pointer none, .string ⟨#[]⟩]), (249, [.int .u8 0]), (250, [.int .u8 0]), (251, [.nilFunc]), (252, [.int .i32 0]), (253, [.int .i32 0]), (254, [.int .u64 0, .int .u64 0, .int .u32 0, .int .u8 0, .int .u8 0, .int .u8 0, .int .u8 0, .nilFunc, .pointer none, .int .i32 0, .int .i32 0]), (255, [.int .u64 0, .int .u64 0, .int .u32 0, .int .u8 0, .int .u8 0, .int .u8 0, .int .u8 0, .nilFunc, .pointer none, .int .i32 0, .int .i32 0])]
def T : Nat → Option TI := lookT TAB
def Z : Nat → Option (List Value) := lookT ZAB
theorem hT : TOk Tryd.prog T Z := by
  refine ⟨fun t i h => ?_, fun t z h => ?_⟩
  · have hall : AllT (TFact Tryd.prog) TAB := by
      unfold TAB
      exact ⟨tf0, tf1, tf2, tf3, tf4, tf5, tf6, tf7, tf8, tf9, tf10, tf11, tf12, tf13, tf14, tf15, tf16, tf17, tf18, tf19, tf20, tf21, tf22, tf23, tf24, tf25, tf26, tf27, tf28, tf29, tf30, tf31, tf32, tf33, tf34, tf35, tf36, tf37, tf38, tf39, tf40, tf41, tf42, tf43, tf44, tf45, tf46, tf47, tf48, tf49, tf50, tf51, tf52, tf53, tf54, tf55, tf56, tf57, tf58, tf59, tf60, tf61, tf62, tf63, tf64, tf65, tf66, tf67, tf68, tf69, tf70, tf71, tf72, tf73, tf74, tf75, tf76, tf77, tf78, tf79, tf80, tf81, tf82, tf83, tf84, tf85, tf86, tf87, tf88, tf89, tf90, tf91, tf92, tf93, tf94, tf95, tf96, tf97, tf98, tf99, tf100, tf101, tf102, tf103, tf104, tf105, tf106, tf107, tf108, tf109, tf110, tf111, tf112, tf113, tf114, tf115, tf116, tf117, tf118, tf119, tf120, tf121, tf122, tf123, tf124, tf125, tf126, tf127, tf128, tf129, tf130, tf131, tf132, tf133, tf134, tf135, tf138, tf139, tf140, tf141, tf142, tf143, tf144, tf145, tf146, tf147, tf148, tf149, tf150, tf151, tf152, tf153, tf154, tf155, tf156, tf157, tf158, tf159, tf160, tf161, tf162, tf163, tf164, tf165, tf166, tf167, tf168, tf169, tf170, tf171, tf172, tf173, tf174, tf175, tf176, tf177, tf178, tf179, tf180, tf181, tf182, tf183, tf184, tf185, tf186, tf187, tf188, tf189, tf190, tf191, tf192, tf193, tf194, tf195, tf196, tf197, tf198, tf199, tf200, tf202, tf203, tf204, tf205, tf206, tf207, tf208, tf209, tf210, tf211, tf212, tf213, tf214, tf215, tf216, tf217, tf219, tf220, tf222, tf223, tf224, tf225, tf226, tf227, tf228, tf231, tf232, tf233, tf234, tf235, tf236, tf237, tf238, tf239, tf240, tf241, tf244, tf245, tf249, tf250, tf251, tf252, tf253, tf254, tf255, trivial⟩
    exact hall.at h
  · have hall : AllT (TZer Tryd.prog) ZAB := by
      unfold ZAB
      exact ⟨inferInstance, inferInstance, inferInstance, inferInstance, inferInstance, inferInstance, inferInstance, inferInstance, inferInstance, inferInstance, inferInstance, inferInstance, inferInstance, inferInstance, inferInstance, inferInstance, inferInstance, inferInstance, inferInstance, inferInstance, inferInstance, inferInstance, inferInstance, inferInstance, inferInstance, inferInstance, inferInstance, inferInstance, inferInstance, inferInstance, inferInstance, inferInstance, inferInstance, inferInstance, inferInstance, inferInstance, inferInstance, inferInstance, inferInstance, inferInstance, inferInstance, inferInstance, inferInstance, inferInstance, inferInstance, inferInstance, inferInstance, inferInstance, inferInstance, inferInstance, inferInstance, inferInstance, inferInstance, inferInstance, inferInstance, inferInstance, inferInstance, inferInstance, inferInstance, inferInstance, inferInstance, inferInstance, inferInstance, inferInstance, inferInstance, inferInstance, inferInstance, inferInstance, inferInstance, inferInstance, inferInstance, inferInstance, inferInstance, inferInstance, inferInstance, inferInstance, inferInstance, inferInstance, inferInstance, inferInstance, inferInstance, inferInstance, inferInstance, inferInstance, inferInstance, inferInstance, inferInstance, inferInstance, inferInstance, inferInstance, inferInstance, inferInstance, inferInstance, inferInstance, inferInstance, inferInstance, inferInstance, inferInstance, inferInstance, inferInstance, inferInstance, inferInstance, inferInstance, inferInstance, inferInstance, inferInstance, inferInstance, inferInstance, inferInstance, inferInstance, inferInstance, inferInstance, inferInstance, inferInstance, inferInstance, inferInstance, inferInstance, inferInstance, inferInstance, inferInstance, inferInstance, inferInstance, inferInstance, inferInstance, inferInstance, inferInstance, inferInstance, inferInstance, inferInstance, inferInstance, inferInstance, inferInstance, inferInstance, inferInstance, inferInstance, inferInstance, inferInstance, inferInstance, inferInstance, inferInstance, inferInstance, inferInstance, inferInstance, inferInstance, inferInstance, inferInstance, inferInstance, inferInstance, inferInstance, inferInstance, inferInstance, inferInstance, inferInstance, inferInstance, inferInstance, inferInstance, inferInstance, inferInstance, inferInstance, inferInstance, inferInstance, inferInstance, inferInstance, inferInstance, inferInstance, inferInstance, inferInstance, inferInstance, inferInstance, inferInstance, inferInstance, inferInstance, inferInstance, inferInstance, inferInstance, inferInstance, inferInstance, inferInstance, inferInstance, inferInstance, inferInstance, inferInstance, inferInstance, inferInstance, inferInstance, inferInstance, inferInstance, inferInstance, inferInstance, inferInstance, inferInstance, inferInstance, inferInstance, inferInstance, inferInstance, inferInstance, inferInstance, inferInstance, inferInstance, inferInstance, inferInstance, inferInstance, inferInstance, inferInstance, inferInstance, inferInstance, inferInstance, inferInstance, inferInstance, inferInstance, inferInstance, inferInstance, inferInstance, inferInstance, inferInstance, inferInstance, inferInstance, inferInstance, inferInstance, inferInstance, inferInstance, trivial⟩
    exact hall.at h
theorem hM : Tryd.prog.follows .mixedOrders = true := by kernel_rfl
end Go.Proofs.YthbhjladfniboaaDoor
