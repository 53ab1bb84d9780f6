/- The tables of types for the data machine. (Written by wip/dtab.py.) -/
import Derived.Test.YtdopillligfdiaaDoorElem
import Derived.Test.YtdopillligfdiaaDoorM16
namespace Go.Proofs.YtdopillligfdiaaDoor
open Go.RowKit
def lookT {α : Type} : List (Nat × α) → Nat → Option α
  | [], _ => none
  | (k, v) :: r, t => match Nat.beq k t with
    | true => some v
    | false => lookT r t
theorem lookT_mem {α : Type} : ∀ {l : List (Nat × α)} {t : Nat} {x : α}, lookT l t = some x → (t, x) ∈ l
  | [], _, _, h => by cases h
  | (k, v) :: r, t, x, h => by
    simp only [lookT] at h
    split at h
    · rename_i hk
      have hk := Nat.eq_of_beq_eq_true hk
      cases h
      subst hk
      simp
    · exact List.mem_cons_of_mem _ (lookT_mem h)
def AllT {α : Type} (R : Nat → α → Prop) : List (Nat × α) → Prop
  | [] => True
  | (k, v) :: l => R k v ∧ AllT R l
theorem AllT.at {α : Type} {R : Nat → α → Prop} : ∀ {l : List (Nat × α)} {t : Nat} {x : α}, AllT R l → lookT l t = some x → R t x
  | [], _, _, _, h => by cases h
  | (k, v) :: r, t, x, ha, h => by
    simp only [lookT] at h
    split at h
    · rename_i hk
      have hk := Nat.eq_of_beq_eq_true hk
      cases h
      subst hk
      exact ha.1
    · exact AllT.at ha.2 h
set_option maxRecDepth 100000
theorem tf0 : TFact Tryd.prog 0 (.one) := (inferInstance : TOne Tryd.prog 0)
theorem tf1 : TFact Tryd.prog 1 (.one) := (inferInstance : TOne Tryd.prog 1)
theorem tf2 : TFact Tryd.prog 2 (.int .i64) := ⟨inferInstance, inferInstance⟩
theorem tf3 : TFact Tryd.prog 3 (.int .i64) := ⟨inferInstance, inferInstance⟩
theorem tf4 : TFact Tryd.prog 4 (.bool) := ⟨inferInstance, inferInstance⟩
theorem tf5 : TFact Tryd.prog 5 (.int .u8) := ⟨inferInstance, inferInstance⟩
theorem tf6 : TFact Tryd.prog 6 (.int .u8) := ⟨inferInstance, inferInstance⟩
theorem tf7 : TFact Tryd.prog 7 (.st 4 [(0, 1, false), (1, 1, false), (2, 1, false), (3, 1, false)] (some [0, 0, 2, 0])) := ⟨inferInstance, fun i off n ag h => by
    match i, h with
    | 0, h => cases h; infer_instance
    | 1, h => cases h; infer_instance
    | 2, h => cases h; infer_instance
    | 3, h => cases h; infer_instance
    | j + 4, h => simp at h, inferInstance, fun k h => by
    cases h; infer_instance⟩
theorem tf8 : TFact Tryd.prog 8 (.st 4 [(0, 1, false), (1, 1, false), (2, 1, false), (3, 1, false)] (some [0, 0, 2, 0])) := ⟨inferInstance, fun i off n ag h => by
    match i, h with
    | 0, h => cases h; infer_instance
    | 1, h => cases h; infer_instance
    | 2, h => cases h; infer_instance
    | 3, h => cases h; infer_instance
    | j + 4, h => simp at h, inferInstance, fun k h => by
    cases h; infer_instance⟩
theorem tf9 : TFact Tryd.prog 9 (.str) := ⟨inferInstance, inferInstance⟩
theorem tf10 : TFact Tryd.prog 10 (.str) := ⟨inferInstance, inferInstance⟩
theorem tf11 : TFact Tryd.prog 11 (.str) := ⟨inferInstance, inferInstance⟩
theorem tf12 : TFact Tryd.prog 12 (.int .u64) := ⟨inferInstance, inferInstance⟩
theorem tf13 : TFact Tryd.prog 13 (.st 2 [(0, 1, false), (1, 1, false)] none) := ⟨inferInstance, fun i off n ag h => by
    match i, h with
    | 0, h => cases h; infer_instance
    | 1, h => cases h; infer_instance
    | j + 2, h => simp at h, inferInstance, fun k h => by
    cases h⟩
theorem tf14 : TFact Tryd.prog 14 (.st 2 [(0, 1, false), (1, 1, false)] none) := ⟨inferInstance, fun i off n ag h => by
    match i, h with
    | 0, h => cases h; infer_instance
    | 1, h => cases h; infer_instance
    | j + 2, h => simp at h, inferInstance, fun k h => by
    cases h⟩
theorem tf15 : TFact Tryd.prog 15 (.one) := (inferInstance : TOne Tryd.prog 15)
theorem tf16 : TFact Tryd.prog 16 (.one) := (inferInstance : TOne Tryd.prog 16)
theorem tf17 : TFact Tryd.prog 17 (.one) := (inferInstance : TOne Tryd.prog 17)
theorem tf18 : TFact Tryd.prog 18 (.st 1 [(0, 1, false)] none) := ⟨inferInstance, fun i off n ag h => by
    match i, h with
    | 0, h => cases h; infer_instance
    | j + 1, h => simp at h, inferInstance, fun k h => by
    cases h⟩
theorem tf19 : TFact Tryd.prog 19 (.st 1 [(0, 1, false)] none) := ⟨inferInstance, fun i off n ag h => by
    match i, h with
    | 0, h => cases h; infer_instance
    | j + 1, h => simp at h, inferInstance, fun k h => by
    cases h⟩
theorem tf20 : TFact Tryd.prog 20 (.one) := (inferInstance : TOne Tryd.prog 20)
theorem tf21 : TFact Tryd.prog 21 (.int .i32) := ⟨inferInstance, inferInstance⟩
theorem tf22 : TFact Tryd.prog 22 (.st 9 [(0, 1, false), (1, 1, false), (2, 1, false), (3, 1, false), (4, 1, false), (5, 1, false), (6, 1, false), (7, 1, false), (8, 1, false)] (some [1, 1, 1, 1, 0, 0, 2, 0, 2])) := ⟨inferInstance, fun i off n ag h => by
    match i, h with
    | 0, h => cases h; infer_instance
    | 1, h => cases h; infer_instance
    | 2, h => cases h; infer_instance
    | 3, h => cases h; infer_instance
    | 4, h => cases h; infer_instance
    | 5, h => cases h; infer_instance
    | 6, h => cases h; infer_instance
    | 7, h => cases h; infer_instance
    | 8, h => cases h; infer_instance
    | j + 9, h => simp at h, inferInstance, fun k h => by
    cases h; infer_instance⟩
theorem tf23 : TFact Tryd.prog 23 (.st 9 [(0, 1, false), (1, 1, false), (2, 1, false), (3, 1, false), (4, 1, false), (5, 1, false), (6, 1, false), (7, 1, false), (8, 1, false)] (some [1, 1, 1, 1, 0, 0, 2, 0, 2])) := ⟨inferInstance, fun i off n ag h => by
    match i, h with
    | 0, h => cases h; infer_instance
    | 1, h => cases h; infer_instance
    | 2, h => cases h; infer_instance
    | 3, h => cases h; infer_instance
    | 4, h => cases h; infer_instance
    | 5, h => cases h; infer_instance
    | 6, h => cases h; infer_instance
    | 7, h => cases h; infer_instance
    | 8, h => cases h; infer_instance
    | j + 9, h => simp at h, inferInstance, fun k h => by
    cases h; infer_instance⟩
theorem tf24 : TFact Tryd.prog 24 (.int .i64) := ⟨inferInstance, inferInstance⟩
theorem tf25 : TFact Tryd.prog 25 (.one) := (inferInstance : TOne Tryd.prog 25)
theorem tf26 : TFact Tryd.prog 26 (.one) := (inferInstance : TOne Tryd.prog 26)
theorem tf27 : TFact Tryd.prog 27 (.one) := (inferInstance : TOne Tryd.prog 27)
theorem tf28 : TFact Tryd.prog 28 (.one) := (inferInstance : TOne Tryd.prog 28)
theorem tf29 : TFact Tryd.prog 29 (.sl 95 2 40 [.string ⟨#[]⟩, .slice none 0 0]) := ⟨inferInstance, inferInstance, inferInstance, inferInstance, inferInstance⟩
theorem tf30 : TFact Tryd.prog 30 (.st 2 [(0, 1, false), (1, 1, false)] (some [1, 1])) := ⟨inferInstance, fun i off n ag h => by
    match i, h with
    | 0, h => cases h; infer_instance
    | 1, h => cases h; infer_instance
    | j + 2, h => simp at h, inferInstance, fun k h => by
    cases h; infer_instance⟩
theorem tf31 : TFact Tryd.prog 31 (.st 2 [(0, 1, false), (1, 1, false)] (some [1, 1])) := ⟨inferInstance, fun i off n ag h => by
    match i, h with
    | 0, h => cases h; infer_instance
    | 1, h => cases h; infer_instance
    | j + 2, h => simp at h, inferInstance, fun k h => by
    cases h; infer_instance⟩
theorem tf32 : TFact Tryd.prog 32 (.one) := (inferInstance : TOne Tryd.prog 32)
theorem tf33 : TFact Tryd.prog 33 (.one) := (inferInstance : TOne Tryd.prog 33)
theorem tf34 : TFact Tryd.prog 34 (.one) := (inferInstance : TOne Tryd.prog 34)
theorem tf35 : TFact Tryd.prog 35 (.one) := (inferInstance : TOne Tryd.prog 35)
theorem tf36 : TFact Tryd.prog 36 (.st 6 [(0, 1, false), (1, 1, false), (2, 1, false), (3, 1, false), (4, 1, false), (5, 1, false)] (some [1, 1, 1, 1, 0, 2])) := ⟨inferInstance, fun i off n ag h => by
    match i, h with
    | 0, h => cases h; infer_instance
    | 1, h => cases h; infer_instance
    | 2, h => cases h; infer_instance
    | 3, h => cases h; infer_instance
    | 4, h => cases h; infer_instance
    | 5, h => cases h; infer_instance
    | j + 6, h => simp at h, inferInstance, fun k h => by
    cases h; infer_instance⟩
theorem tf37 : TFact Tryd.prog 37 (.st 6 [(0, 1, false), (1, 1, false), (2, 1, false), (3, 1, false), (4, 1, false), (5, 1, false)] (some [1, 1, 1, 1, 0, 2])) := ⟨inferInstance, fun i off n ag h => by
    match i, h with
    | 0, h => cases h; infer_instance
    | 1, h => cases h; infer_instance
    | 2, h => cases h; infer_instance
    | 3, h => cases h; infer_instance
    | 4, h => cases h; infer_instance
    | 5, h => cases h; infer_instance
    | j + 6, h => simp at h, inferInstance, fun k h => by
    cases h; infer_instance⟩
theorem tf38 : TFact Tryd.prog 38 (.one) := (inferInstance : TOne Tryd.prog 38)
theorem tf39 : TFact Tryd.prog 39 (.one) := (inferInstance : TOne Tryd.prog 39)
theorem tf40 : TFact Tryd.prog 40 (.one) := (inferInstance : TOne Tryd.prog 40)
theorem tf41 : TFact Tryd.prog 41 (.st 2 [(0, 1, false), (1, 1, false)] (some [0, 0])) := ⟨inferInstance, fun i off n ag h => by
    match i, h with
    | 0, h => cases h; infer_instance
    | 1, h => cases h; infer_instance
    | j + 2, h => simp at h, inferInstance, fun k h => by
    cases h; infer_instance⟩
theorem tf42 : TFact Tryd.prog 42 (.st 2 [(0, 1, false), (1, 1, false)] (some [0, 0])) := ⟨inferInstance, fun i off n ag h => by
    match i, h with
    | 0, h => cases h; infer_instance
    | 1, h => cases h; infer_instance
    | j + 2, h => simp at h, inferInstance, fun k h => by
    cases h; infer_instance⟩
theorem tf43 : TFact Tryd.prog 43 (.sl 50 3 32 [.int .i64 0, .int .i64 0, .string ⟨#[]⟩]) := ⟨inferInstance, inferInstance, inferInstance, inferInstance, inferInstance⟩
theorem tf44 : TFact Tryd.prog 44 (.sl 48 2 16 [.int .i64 0, .int .i64 0]) := ⟨inferInstance, inferInstance, inferInstance, inferInstance, inferInstance⟩
theorem tf45 : TFact Tryd.prog 45 (.one) := (inferInstance : TOne Tryd.prog 45)
theorem tf46 : TFact Tryd.prog 46 (.one) := (inferInstance : TOne Tryd.prog 46)
theorem tf47 : TFact Tryd.prog 47 (.st 2 [(0, 1, false), (1, 1, false)] (some [0, 0])) := ⟨inferInstance, fun i off n ag h => by
    match i, h with
    | 0, h => cases h; infer_instance
    | 1, h => cases h; infer_instance
    | j + 2, h => simp at h, inferInstance, fun k h => by
    cases h; infer_instance⟩
theorem tf48 : TFact Tryd.prog 48 (.st 2 [(0, 1, false), (1, 1, false)] (some [0, 0])) := ⟨inferInstance, fun i off n ag h => by
    match i, h with
    | 0, h => cases h; infer_instance
    | 1, h => cases h; infer_instance
    | j + 2, h => simp at h, inferInstance, fun k h => by
    cases h; infer_instance⟩
theorem tf49 : TFact Tryd.prog 49 (.st 3 [(0, 1, false), (1, 1, false), (2, 1, false)] (some [0, 0, 1])) := ⟨inferInstance, fun i off n ag h => by
    match i, h with
    | 0, h => cases h; infer_instance
    | 1, h => cases h; infer_instance
    | 2, h => cases h; infer_instance
    | j + 3, h => simp at h, inferInstance, fun k h => by
    cases h; infer_instance⟩
theorem tf50 : TFact Tryd.prog 50 (.st 3 [(0, 1, false), (1, 1, false), (2, 1, false)] (some [0, 0, 1])) := ⟨inferInstance, fun i off n ag h => by
    match i, h with
    | 0, h => cases h; infer_instance
    | 1, h => cases h; infer_instance
    | 2, h => cases h; infer_instance
    | j + 3, h => simp at h, inferInstance, fun k h => by
    cases h; infer_instance⟩
theorem tf51 : TFact Tryd.prog 51 (.sl 3 1 8 [.int .i64 0]) := ⟨inferInstance, inferInstance, inferInstance, inferInstance, inferInstance⟩
theorem tf52 : TFact Tryd.prog 52 (.one) := (inferInstance : TOne Tryd.prog 52)
theorem tf53 : TFact Tryd.prog 53 (.one) := (inferInstance : TOne Tryd.prog 53)
theorem tf54 : TFact Tryd.prog 54 (.one) := (inferInstance : TOne Tryd.prog 54)
theorem tf55 : TFact Tryd.prog 55 (.one) := (inferInstance : TOne Tryd.prog 55)
theorem tf56 : TFact Tryd.prog 56 (.one) := (inferInstance : TOne Tryd.prog 56)
theorem tf57 : TFact Tryd.prog 57 (.one) := (inferInstance : TOne Tryd.prog 57)
theorem tf58 : TFact Tryd.prog 58 (.one) := (inferInstance : TOne Tryd.prog 58)
theorem tf59 : TFact Tryd.prog 59 (.sl 23 9 104 [.string ⟨#[]⟩, .string ⟨#[]⟩, .string ⟨#[]⟩, .string ⟨#[]⟩, .int .i64 0, .int .i64 0, .bool false, .int .i64 0, .bool false]) := ⟨inferInstance, inferInstance, inferInstance, inferInstance, inferInstance⟩
theorem tf60 : TFact Tryd.prog 60 (.one) := (inferInstance : TOne Tryd.prog 60)
theorem tf61 : TFact Tryd.prog 61 (.one) := (inferInstance : TOne Tryd.prog 61)
theorem tf62 : TFact Tryd.prog 62 (.one) := (inferInstance : TOne Tryd.prog 62)
theorem tf63 : TFact Tryd.prog 63 (.sl 68 2 16 [.int .i64 0, .int .i64 0]) := ⟨inferInstance, inferInstance, inferInstance, inferInstance, inferInstance⟩
theorem tf64 : TFact Tryd.prog 64 (.one) := (inferInstance : TOne Tryd.prog 64)
theorem tf65 : TFact Tryd.prog 65 (.one) := (inferInstance : TOne Tryd.prog 65)
theorem tf66 : TFact Tryd.prog 66 (.one) := (inferInstance : TOne Tryd.prog 66)
theorem tf67 : TFact Tryd.prog 67 (.st 2 [(0, 1, false), (1, 1, false)] (some [0, 0])) := ⟨inferInstance, fun i off n ag h => by
    match i, h with
    | 0, h => cases h; infer_instance
    | 1, h => cases h; infer_instance
    | j + 2, h => simp at h, inferInstance, fun k h => by
    cases h; infer_instance⟩
theorem tf68 : TFact Tryd.prog 68 (.st 2 [(0, 1, false), (1, 1, false)] (some [0, 0])) := ⟨inferInstance, fun i off n ag h => by
    match i, h with
    | 0, h => cases h; infer_instance
    | 1, h => cases h; infer_instance
    | j + 2, h => simp at h, inferInstance, fun k h => by
    cases h; infer_instance⟩
theorem tf69 : TFact Tryd.prog 69 (.one) := (inferInstance : TOne Tryd.prog 69)
theorem tf70 : TFact Tryd.prog 70 (.one) := (inferInstance : TOne Tryd.prog 70)
theorem tf71 : TFact Tryd.prog 71 (.one) := (inferInstance : TOne Tryd.prog 71)
theorem tf72 : TFact Tryd.prog 72 (.one) := (inferInstance : TOne Tryd.prog 72)
theorem tf73 : TFact Tryd.prog 73 (.one) := (inferInstance : TOne Tryd.prog 73)
theorem tf74 : TFact Tryd.prog 74 (.one) := (inferInstance : TOne Tryd.prog 74)
theorem tf75 : TFact Tryd.prog 75 (.one) := (inferInstance : TOne Tryd.prog 75)
theorem tf76 : TFact Tryd.prog 76 (.one) := (inferInstance : TOne Tryd.prog 76)
theorem tf77 : TFact Tryd.prog 77 (.one) := (inferInstance : TOne Tryd.prog 77)
theorem tf78 : TFact Tryd.prog 78 (.one) := (inferInstance : TOne Tryd.prog 78)
theorem tf79 : TFact Tryd.prog 79 (.sl 5 1 1 [.int .u8 0]) := ⟨inferInstance, inferInstance, inferInstance, inferInstance, inferInstance⟩
theorem tf80 : TFact Tryd.prog 80 (.st 3 [(0, 1, false), (1, 1, false), (2, 1, false)] (some [0, 1, 0])) := ⟨inferInstance, fun i off n ag h => by
    match i, h with
    | 0, h => cases h; infer_instance
    | 1, h => cases h; infer_instance
    | 2, h => cases h; infer_instance
    | j + 3, h => simp at h, inferInstance, fun k h => by
    cases h; infer_instance⟩
theorem tf81 : TFact Tryd.prog 81 (.st 3 [(0, 1, false), (1, 1, false), (2, 1, false)] (some [0, 1, 0])) := ⟨inferInstance, fun i off n ag h => by
    match i, h with
    | 0, h => cases h; infer_instance
    | 1, h => cases h; infer_instance
    | 2, h => cases h; infer_instance
    | j + 3, h => simp at h, inferInstance, fun k h => by
    cases h; infer_instance⟩
theorem tf82 : TFact Tryd.prog 82 (.one) := (inferInstance : TOne Tryd.prog 82)
theorem tf83 : TFact Tryd.prog 83 (.one) := (inferInstance : TOne Tryd.prog 83)
theorem tf84 : TFact Tryd.prog 84 (.one) := (inferInstance : TOne Tryd.prog 84)
theorem tf85 : TFact Tryd.prog 85 (.one) := (inferInstance : TOne Tryd.prog 85)
theorem tf86 : TFact Tryd.prog 86 (.one) := (inferInstance : TOne Tryd.prog 86)
theorem tf87 : TFact Tryd.prog 87 (.one) := (inferInstance : TOne Tryd.prog 87)
theorem tf88 : TFact Tryd.prog 88 (.one) := (inferInstance : TOne Tryd.prog 88)
theorem tf89 : TFact Tryd.prog 89 (.one) := (inferInstance : TOne Tryd.prog 89)
theorem tf90 : TFact Tryd.prog 90 (.one) := (inferInstance : TOne Tryd.prog 90)
theorem tf91 : TFact Tryd.prog 91 (.one) := (inferInstance : TOne Tryd.prog 91)
theorem tf92 : TFact Tryd.prog 92 (.mp 31 4 (.st [1, 1]) (.bool false)) := ⟨inferInstance, inferInstance, inferInstance⟩
theorem tf93 : TFact Tryd.prog 93 (.sl 31 2 32 [.string ⟨#[]⟩, .string ⟨#[]⟩]) := ⟨inferInstance, inferInstance, inferInstance, inferInstance, inferInstance⟩
theorem tf94 : TFact Tryd.prog 94 (.st 2 [(0, 1, false), (1, 1, false)] none) := ⟨inferInstance, fun i off n ag h => by
    match i, h with
    | 0, h => cases h; infer_instance
    | 1, h => cases h; infer_instance
    | j + 2, h => simp at h, inferInstance, fun k h => by
    cases h⟩
theorem tf95 : TFact Tryd.prog 95 (.st 2 [(0, 1, false), (1, 1, false)] none) := ⟨inferInstance, fun i off n ag h => by
    match i, h with
    | 0, h => cases h; infer_instance
    | 1, h => cases h; infer_instance
    | j + 2, h => simp at h, inferInstance, fun k h => by
    cases h⟩
theorem tf96 : TFact Tryd.prog 96 (.one) := (inferInstance : TOne Tryd.prog 96)
theorem tf97 : TFact Tryd.prog 97 (.one) := (inferInstance : TOne Tryd.prog 97)
theorem tf98 : TFact Tryd.prog 98 (.one) := (inferInstance : TOne Tryd.prog 98)
theorem tf99 : TFact Tryd.prog 99 (.one) := (inferInstance : TOne Tryd.prog 99)
theorem tf100 : TFact Tryd.prog 100 (.one) := (inferInstance : TOne Tryd.prog 100)
theorem tf101 : TFact Tryd.prog 101 (.one) := (inferInstance : TOne Tryd.prog 101)
theorem tf102 : TFact Tryd.prog 102 (.one) := (inferInstance : TOne Tryd.prog 102)
theorem tf103 : TFact Tryd.prog 103 (.mp 3 3 (.int .i64) (.int .i64 0)) := ⟨inferInstance, inferInstance, inferInstance⟩
theorem tf104 : TFact Tryd.prog 104 (.st 9 [(0, 2, true), (2, 1, false), (3, 1, false), (4, 1, false), (5, 1, false), (6, 1, false), (7, 1, false), (8, 1, false)] none) := ⟨inferInstance, fun i off n ag h => by
    match i, h with
    | 0, h => cases h; infer_instance
    | 1, h => cases h; infer_instance
    | 2, h => cases h; infer_instance
    | 3, h => cases h; infer_instance
    | 4, h => cases h; infer_instance
    | 5, h => cases h; infer_instance
    | 6, h => cases h; infer_instance
    | 7, h => cases h; infer_instance
    | j + 8, h => simp at h, inferInstance, fun k h => by
    cases h⟩
theorem tf105 : TFact Tryd.prog 105 (.st 9 [(0, 2, true), (2, 1, false), (3, 1, false), (4, 1, false), (5, 1, false), (6, 1, false), (7, 1, false), (8, 1, false)] none) := ⟨inferInstance, fun i off n ag h => by
    match i, h with
    | 0, h => cases h; infer_instance
    | 1, h => cases h; infer_instance
    | 2, h => cases h; infer_instance
    | 3, h => cases h; infer_instance
    | 4, h => cases h; infer_instance
    | 5, h => cases h; infer_instance
    | 6, h => cases h; infer_instance
    | 7, h => cases h; infer_instance
    | j + 8, h => simp at h, inferInstance, fun k h => by
    cases h⟩
theorem tf106 : TFact Tryd.prog 106 (.one) := (inferInstance : TOne Tryd.prog 106)
theorem tf107 : TFact Tryd.prog 107 (.sl 117 2 16 [.int .i64 0, .int .i64 0]) := ⟨inferInstance, inferInstance, inferInstance, inferInstance, inferInstance⟩
theorem tf108 : TFact Tryd.prog 108 (.st 8 [(0, 2, true), (2, 1, false), (3, 1, false), (4, 1, false), (5, 1, false), (6, 1, false), (7, 1, false)] none) := ⟨inferInstance, fun i off n ag h => by
    match i, h with
    | 0, h => cases h; infer_instance
    | 1, h => cases h; infer_instance
    | 2, h => cases h; infer_instance
    | 3, h => cases h; infer_instance
    | 4, h => cases h; infer_instance
    | 5, h => cases h; infer_instance
    | 6, h => cases h; infer_instance
    | j + 7, h => simp at h, inferInstance, fun k h => by
    cases h⟩
theorem tf109 : TFact Tryd.prog 109 (.st 8 [(0, 2, true), (2, 1, false), (3, 1, false), (4, 1, false), (5, 1, false), (6, 1, false), (7, 1, false)] none) := ⟨inferInstance, fun i off n ag h => by
    match i, h with
    | 0, h => cases h; infer_instance
    | 1, h => cases h; infer_instance
    | 2, h => cases h; infer_instance
    | 3, h => cases h; infer_instance
    | 4, h => cases h; infer_instance
    | 5, h => cases h; infer_instance
    | 6, h => cases h; infer_instance
    | j + 7, h => simp at h, inferInstance, fun k h => by
    cases h⟩
theorem tf110 : TFact Tryd.prog 110 (.one) := (inferInstance : TOne Tryd.prog 110)
theorem tf111 : TFact Tryd.prog 111 (.one) := (inferInstance : TOne Tryd.prog 111)
theorem tf112 : TFact Tryd.prog 112 (.one) := (inferInstance : TOne Tryd.prog 112)
theorem tf113 : TFact Tryd.prog 113 (.one) := (inferInstance : TOne Tryd.prog 113)
theorem tf114 : TFact Tryd.prog 114 (.one) := (inferInstance : TOne Tryd.prog 114)
theorem tf115 : TFact Tryd.prog 115 (.one) := (inferInstance : TOne Tryd.prog 115)
theorem tf116 : TFact Tryd.prog 116 (.st 2 [(0, 1, false), (1, 1, false)] (some [0, 0])) := ⟨inferInstance, fun i off n ag h => by
    match i, h with
    | 0, h => cases h; infer_instance
    | 1, h => cases h; infer_instance
    | j + 2, h => simp at h, inferInstance, fun k h => by
    cases h; infer_instance⟩
theorem tf117 : TFact Tryd.prog 117 (.st 2 [(0, 1, false), (1, 1, false)] (some [0, 0])) := ⟨inferInstance, fun i off n ag h => by
    match i, h with
    | 0, h => cases h; infer_instance
    | 1, h => cases h; infer_instance
    | j + 2, h => simp at h, inferInstance, fun k h => by
    cases h; infer_instance⟩
theorem tf118 : TFact Tryd.prog 118 (.one) := (inferInstance : TOne Tryd.prog 118)
theorem tf119 : TFact Tryd.prog 119 (.one) := (inferInstance : TOne Tryd.prog 119)
theorem tf120 : TFact Tryd.prog 120 (.one) := (inferInstance : TOne Tryd.prog 120)
theorem tf121 : TFact Tryd.prog 121 (.one) := (inferInstance : TOne Tryd.prog 121)
theorem tf122 : TFact Tryd.prog 122 (.one) := (inferInstance : TOne Tryd.prog 122)
theorem tf123 : TFact Tryd.prog 123 (.one) := (inferInstance : TOne Tryd.prog 123)
theorem tf124 : TFact Tryd.prog 124 (.one) := (inferInstance : TOne Tryd.prog 124)
theorem tf125 : TFact Tryd.prog 125 (.one) := (inferInstance : TOne Tryd.prog 125)
theorem tf126 : TFact Tryd.prog 126 (.one) := (inferInstance : TOne Tryd.prog 126)
theorem tf127 : TFact Tryd.prog 127 (.one) := (inferInstance : TOne Tryd.prog 127)
theorem tf128 : TFact Tryd.prog 128 (.one) := (inferInstance : TOne Tryd.prog 128)
theorem tf129 : TFact Tryd.prog 129 (.one) := (inferInstance : TOne Tryd.prog 129)
theorem tf130 : TFact Tryd.prog 130 (.sl 9 1 16 [.string ⟨#[]⟩]) := ⟨inferInstance, inferInstance, inferInstance, inferInstance, inferInstance⟩
theorem tf131 : TFact Tryd.prog 131 (.one) := (inferInstance : TOne Tryd.prog 131)
theorem tf132 : TFact Tryd.prog 132 (.one) := (inferInstance : TOne Tryd.prog 132)
theorem tf133 : TFact Tryd.prog 133 (.one) := (inferInstance : TOne Tryd.prog 133)
theorem tf134 : TFact Tryd.prog 134 (.one) := (inferInstance : TOne Tryd.prog 134)
theorem tf135 : TFact Tryd.prog 135 (.one) := (inferInstance : TOne Tryd.prog 135)
theorem tf136 : TFact Tryd.prog 136 (.one) := (inferInstance : TOne Tryd.prog 136)
theorem tf137 : TFact Tryd.prog 137 (.one) := (inferInstance : TOne Tryd.prog 137)
theorem tf138 : TFact Tryd.prog 138 (.one) := (inferInstance : TOne Tryd.prog 138)
theorem tf139 : TFact Tryd.prog 139 (.one) := (inferInstance : TOne Tryd.prog 139)
theorem tf140 : TFact Tryd.prog 140 (.one) := (inferInstance : TOne Tryd.prog 140)
theorem tf141 : TFact Tryd.prog 141 (.one) := (inferInstance : TOne Tryd.prog 141)
theorem tf142 : TFact Tryd.prog 142 (.one) := (inferInstance : TOne Tryd.prog 142)
theorem tf143 : TFact Tryd.prog 143 (.one) := (inferInstance : TOne Tryd.prog 143)
theorem tf144 : TFact Tryd.prog 144 (.one) := (inferInstance : TOne Tryd.prog 144)
theorem tf145 : TFact Tryd.prog 145 (.one) := (inferInstance : TOne Tryd.prog 145)
theorem tf146 : TFact Tryd.prog 146 (.one) := (inferInstance : TOne Tryd.prog 146)
theorem tf147 : TFact Tryd.prog 147 (.one) := (inferInstance : TOne Tryd.prog 147)
theorem tf148 : TFact Tryd.prog 148 (.one) := (inferInstance : TOne Tryd.prog 148)
theorem tf149 : TFact Tryd.prog 149 (.one) := (inferInstance : TOne Tryd.prog 149)
theorem tf150 : TFact Tryd.prog 150 (.one) := (inferInstance : TOne Tryd.prog 150)
theorem tf151 : TFact Tryd.prog 151 (.one) := (inferInstance : TOne Tryd.prog 151)
theorem tf152 : TFact Tryd.prog 152 (.one) := (inferInstance : TOne Tryd.prog 152)
theorem tf153 : TFact Tryd.prog 153 (.one) := (inferInstance : TOne Tryd.prog 153)
theorem tf154 : TFact Tryd.prog 154 (.one) := (inferInstance : TOne Tryd.prog 154)
theorem tf155 : TFact Tryd.prog 155 (.one) := (inferInstance : TOne Tryd.prog 155)
theorem tf156 : TFact Tryd.prog 156 (.one) := (inferInstance : TOne Tryd.prog 156)
theorem tf157 : TFact Tryd.prog 157 (.one) := (inferInstance : TOne Tryd.prog 157)
theorem tf158 : TFact Tryd.prog 158 (.one) := (inferInstance : TOne Tryd.prog 158)
theorem tf159 : TFact Tryd.prog 159 (.one) := (inferInstance : TOne Tryd.prog 159)
theorem tf162 : TFact Tryd.prog 162 (.one) := (inferInstance : TOne Tryd.prog 162)
theorem tf163 : TFact Tryd.prog 163 (.one) := (inferInstance : TOne Tryd.prog 163)
theorem tf164 : TFact Tryd.prog 164 (.one) := (inferInstance : TOne Tryd.prog 164)
theorem tf165 : TFact Tryd.prog 165 (.one) := (inferInstance : TOne Tryd.prog 165)
theorem tf166 : TFact Tryd.prog 166 (.one) := (inferInstance : TOne Tryd.prog 166)
theorem tf167 : TFact Tryd.prog 167 (.one) := (inferInstance : TOne Tryd.prog 167)
theorem tf168 : TFact Tryd.prog 168 (.one) := (inferInstance : TOne Tryd.prog 168)
theorem tf169 : TFact Tryd.prog 169 (.one) := (inferInstance : TOne Tryd.prog 169)
theorem tf170 : TFact Tryd.prog 170 (.one) := (inferInstance : TOne Tryd.prog 170)
theorem tf171 : TFact Tryd.prog 171 (.one) := (inferInstance : TOne Tryd.prog 171)
theorem tf172 : TFact Tryd.prog 172 (.one) := (inferInstance : TOne Tryd.prog 172)
theorem tf173 : TFact Tryd.prog 173 (.int .u64) := ⟨inferInstance, inferInstance⟩
theorem tf174 : TFact Tryd.prog 174 (.one) := (inferInstance : TOne Tryd.prog 174)
theorem tf175 : TFact Tryd.prog 175 (.one) := (inferInstance : TOne Tryd.prog 175)
theorem tf176 : TFact Tryd.prog 176 (.one) := (inferInstance : TOne Tryd.prog 176)
theorem tf177 : TFact Tryd.prog 177 (.int .u64) := ⟨inferInstance, inferInstance⟩
theorem tf178 : TFact Tryd.prog 178 (.one) := (inferInstance : TOne Tryd.prog 178)
theorem tf179 : TFact Tryd.prog 179 (.one) := (inferInstance : TOne Tryd.prog 179)
theorem tf180 : TFact Tryd.prog 180 (.sl 79 1 24 [.slice none 0 0]) := ⟨inferInstance, inferInstance, inferInstance, inferInstance, inferInstance⟩
theorem tf181 : TFact Tryd.prog 181 (.one) := (inferInstance : TOne Tryd.prog 181)
theorem tf182 : TFact Tryd.prog 182 (.one) := (inferInstance : TOne Tryd.prog 182)
theorem tf183 : TFact Tryd.prog 183 (.one) := (inferInstance : TOne Tryd.prog 183)
theorem tf184 : TFact Tryd.prog 184 (.one) := (inferInstance : TOne Tryd.prog 184)
theorem tf185 : TFact Tryd.prog 185 (.one) := (inferInstance : TOne Tryd.prog 185)
theorem tf186 : TFact Tryd.prog 186 (.one) := (inferInstance : TOne Tryd.prog 186)
theorem tf187 : TFact Tryd.prog 187 (.one) := (inferInstance : TOne Tryd.prog 187)
theorem tf188 : TFact Tryd.prog 188 (.one) := (inferInstance : TOne Tryd.prog 188)
theorem tf189 : TFact Tryd.prog 189 (.one) := (inferInstance : TOne Tryd.prog 189)
theorem tf190 : TFact Tryd.prog 190 (.one) := (inferInstance : TOne Tryd.prog 190)
theorem tf191 : TFact Tryd.prog 191 (.one) := (inferInstance : TOne Tryd.prog 191)
theorem tf192 : TFact Tryd.prog 192 (.int .i64) := ⟨inferInstance, inferInstance⟩
theorem tf193 : TFact Tryd.prog 193 (.one) := (inferInstance : TOne Tryd.prog 193)
theorem tf194 : TFact Tryd.prog 194 (.one) := (inferInstance : TOne Tryd.prog 194)
theorem tf195 : TFact Tryd.prog 195 (.one) := (inferInstance : TOne Tryd.prog 195)
theorem tf196 : TFact Tryd.prog 196 (.one) := (inferInstance : TOne Tryd.prog 196)
theorem tf197 : TFact Tryd.prog 197 (.one) := (inferInstance : TOne Tryd.prog 197)
theorem tf198 : TFact Tryd.prog 198 (.one) := (inferInstance : TOne Tryd.prog 198)
theorem tf199 : TFact Tryd.prog 199 (.one) := (inferInstance : TOne Tryd.prog 199)
theorem tf200 : TFact Tryd.prog 200 (.int .u32) := ⟨inferInstance, inferInstance⟩
theorem tf201 : TFact Tryd.prog 201 (.one) := (inferInstance : TOne Tryd.prog 201)
theorem tf202 : TFact Tryd.prog 202 (.one) := (inferInstance : TOne Tryd.prog 202)
theorem tf203 : TFact Tryd.prog 203 (.one) := (inferInstance : TOne Tryd.prog 203)
theorem tf204 : TFact Tryd.prog 204 (.one) := (inferInstance : TOne Tryd.prog 204)
theorem tf205 : TFact Tryd.prog 205 (.one) := (inferInstance : TOne Tryd.prog 205)
theorem tf206 : TFact Tryd.prog 206 (.one) := (inferInstance : TOne Tryd.prog 206)
theorem tf207 : TFact Tryd.prog 207 (.st 2 [(0, 1, false), (1, 1, false)] none) := ⟨inferInstance, fun i off n ag h => by
    match i, h with
    | 0, h => cases h; infer_instance
    | 1, h => cases h; infer_instance
    | j + 2, h => simp at h, inferInstance, fun k h => by
    cases h⟩
theorem tf208 : TFact Tryd.prog 208 (.st 2 [(0, 1, false), (1, 1, false)] none) := ⟨inferInstance, fun i off n ag h => by
    match i, h with
    | 0, h => cases h; infer_instance
    | 1, h => cases h; infer_instance
    | j + 2, h => simp at h, inferInstance, fun k h => by
    cases h⟩
theorem tf209 : TFact Tryd.prog 209 (.one) := (inferInstance : TOne Tryd.prog 209)
theorem tf210 : TFact Tryd.prog 210 (.one) := (inferInstance : TOne Tryd.prog 210)
theorem tf211 : TFact Tryd.prog 211 (.int .i64) := ⟨inferInstance, inferInstance⟩
theorem tf212 : TFact Tryd.prog 212 (.one) := (inferInstance : TOne Tryd.prog 212)
theorem tf213 : TFact Tryd.prog 213 (.one) := (inferInstance : TOne Tryd.prog 213)
theorem tf214 : TFact Tryd.prog 214 (.one) := (inferInstance : TOne Tryd.prog 214)
theorem tf215 : TFact Tryd.prog 215 (.one) := (inferInstance : TOne Tryd.prog 215)
theorem tf216 : TFact Tryd.prog 216 (.one) := (inferInstance : TOne Tryd.prog 216)
theorem tf217 : TFact Tryd.prog 217 (.one) := (inferInstance : TOne Tryd.prog 217)
theorem tf218 : TFact Tryd.prog 218 (.int .u64) := ⟨inferInstance, inferInstance⟩
theorem tf219 : TFact Tryd.prog 219 (.one) := (inferInstance : TOne Tryd.prog 219)
theorem tf220 : TFact Tryd.prog 220 (.one) := (inferInstance : TOne Tryd.prog 220)
theorem tf221 : TFact Tryd.prog 221 (.one) := (inferInstance : TOne Tryd.prog 221)
theorem tf222 : TFact Tryd.prog 222 (.one) := (inferInstance : TOne Tryd.prog 222)
theorem tf223 : TFact Tryd.prog 223 (.one) := (inferInstance : TOne Tryd.prog 223)
theorem tf225 : TFact Tryd.prog 225 (.one) := (inferInstance : TOne Tryd.prog 225)
theorem tf226 : TFact Tryd.prog 226 (.one) := (inferInstance : TOne Tryd.prog 226)
theorem tf227 : TFact Tryd.prog 227 (.one) := (inferInstance : TOne Tryd.prog 227)
theorem tf228 : TFact Tryd.prog 228 (.one) := (inferInstance : TOne Tryd.prog 228)
theorem tf229 : TFact Tryd.prog 229 (.one) := (inferInstance : TOne Tryd.prog 229)
theorem tf230 : TFact Tryd.prog 230 (.one) := (inferInstance : TOne Tryd.prog 230)
theorem tf231 : TFact Tryd.prog 231 (.one) := (inferInstance : TOne Tryd.prog 231)
theorem tf232 : TFact Tryd.prog 232 (.one) := (inferInstance : TOne Tryd.prog 232)
theorem tf233 : TFact Tryd.prog 233 (.one) := (inferInstance : TOne Tryd.prog 233)
theorem tf234 : TFact Tryd.prog 234 (.one) := (inferInstance : TOne Tryd.prog 234)
theorem tf235 : TFact Tryd.prog 235 (.one) := (inferInstance : TOne Tryd.prog 235)
theorem tf236 : TFact Tryd.prog 236 (.one) := (inferInstance : TOne Tryd.prog 236)
theorem tf237 : TFact Tryd.prog 237 (.one) := (inferInstance : TOne Tryd.prog 237)
theorem tf238 : TFact Tryd.prog 238 (.st 3 [(0, 1, false), (1, 1, false), (2, 1, false)] none) := ⟨inferInstance, fun i off n ag h => by
    match i, h with
    | 0, h => cases h; infer_instance
    | 1, h => cases h; infer_instance
    | 2, h => cases h; infer_instance
    | j + 3, h => simp at h, inferInstance, fun k h => by
    cases h⟩
theorem tf239 : TFact Tryd.prog 239 (.st 3 [(0, 1, false), (1, 1, false), (2, 1, false)] none) := ⟨inferInstance, fun i off n ag h => by
    match i, h with
    | 0, h => cases h; infer_instance
    | 1, h => cases h; infer_instance
    | 2, h => cases h; infer_instance
    | j + 3, h => simp at h, inferInstance, fun k h => by
    cases h⟩
theorem tf240 : TFact Tryd.prog 240 (.one) := (inferInstance : TOne Tryd.prog 240)
theorem tf242 : TFact Tryd.prog 242 (.st 2 [(0, 1, false), (1, 1, false)] (some [0, 0])) := ⟨inferInstance, fun i off n ag h => by
    match i, h with
    | 0, h => cases h; infer_instance
    | 1, h => cases h; infer_instance
    | j + 2, h => simp at h, inferInstance, fun k h => by
    cases h; infer_instance⟩
theorem tf243 : TFact Tryd.prog 243 (.st 2 [(0, 1, false), (1, 1, false)] (some [0, 0])) := ⟨inferInstance, fun i off n ag h => by
    match i, h with
    | 0, h => cases h; infer_instance
    | 1, h => cases h; infer_instance
    | j + 2, h => simp at h, inferInstance, fun k h => by
    cases h; infer_instance⟩
theorem tf245 : TFact Tryd.prog 245 (.one) := (inferInstance : TOne Tryd.prog 245)
theorem tf246 : TFact Tryd.prog 246 (.one) := (inferInstance : TOne Tryd.prog 246)
theorem tf247 : TFact Tryd.prog 247 (.one) := (inferInstance : TOne Tryd.prog 247)
theorem tf248 : TFact Tryd.prog 248 (.one) := (inferInstance : TOne Tryd.prog 248)
theorem tf251 : TFact Tryd.prog 251 (.one) := (inferInstance : TOne Tryd.prog 251)
theorem tf252 : TFact Tryd.prog 252 (.one) := (inferInstance : TOne Tryd.prog 252)
theorem tf253 : TFact Tryd.prog 253 (.one) := (inferInstance : TOne Tryd.prog 253)
theorem tf254 : TFact Tryd.prog 254 (.one) := (inferInstance : TOne Tryd.prog 254)
theorem tf255 : TFact Tryd.prog 255 (.one) := (inferInstance : TOne Tryd.prog 255)
theorem tf256 : TFact Tryd.prog 256 (.st 1 [(0, 1, false)] (some [1])) := ⟨inferInstance, fun i off n ag h => by
    match i, h with
    | 0, h => cases h; infer_instance
    | j + 1, h => simp at h, inferInstance, fun k h => by
    cases h; infer_instance⟩
theorem tf257 : TFact Tryd.prog 257 (.st 1 [(0, 1, false)] (some [1])) := ⟨inferInstance, fun i off n ag h => by
    match i, h with
    | 0, h => cases h; infer_instance
    | j + 1, h => simp at h, inferInstance, fun k h => by
    cases h; infer_instance⟩
theorem tf258 : TFact Tryd.prog 258 (.one) := (inferInstance : TOne Tryd.prog 258)
theorem tf261 : TFact Tryd.prog 261 (.st 4 [(0, 1, false), (1, 1, false), (2, 1, false), (3, 1, false)] none) := ⟨inferInstance, fun i off n ag h => by
    match i, h with
    | 0, h => cases h; infer_instance
    | 1, h => cases h; infer_instance
    | 2, h => cases h; infer_instance
    | 3, h => cases h; infer_instance
    | j + 4, h => simp at h, inferInstance, fun k h => by
    cases h⟩
theorem tf262 : TFact Tryd.prog 262 (.st 4 [(0, 1, false), (1, 1, false), (2, 1, false), (3, 1, false)] none) := ⟨inferInstance, fun i off n ag h => by
    match i, h with
    | 0, h => cases h; infer_instance
    | 1, h => cases h; infer_instance
    | 2, h => cases h; infer_instance
    | 3, h => cases h; infer_instance
    | j + 4, h => simp at h, inferInstance, fun k h => by
    cases h⟩
theorem tf266 : TFact Tryd.prog 266 (.int .u8) := ⟨inferInstance, inferInstance⟩
theorem tf267 : TFact Tryd.prog 267 (.int .u8) := ⟨inferInstance, inferInstance⟩
theorem tf268 : TFact Tryd.prog 268 (.one) := (inferInstance : TOne Tryd.prog 268)
theorem tf269 : TFact Tryd.prog 269 (.int .i32) := ⟨inferInstance, inferInstance⟩
theorem tf270 : TFact Tryd.prog 270 (.int .i32) := ⟨inferInstance, inferInstance⟩
theorem tf271 : TFact Tryd.prog 271 (.st 11 [(0, 1, false), (1, 1, false), (2, 1, false), (3, 1, false), (4, 1, false), (5, 1, false), (6, 1, false), (7, 1, false), (8, 1, false), (9, 1, false), (10, 1, false)] none) := ⟨inferInstance, fun i off n ag h => by
    match i, h with
    | 0, h => cases h; infer_instance
    | 1, h => cases h; infer_instance
    | 2, h => cases h; infer_instance
    | 3, h => cases h; infer_instance
    | 4, h => cases h; infer_instance
    | 5, h => cases h; infer_instance
    | 6, h => cases h; infer_instance
    | 7, h => cases h; infer_instance
    | 8, h => cases h; infer_instance
    | 9, h => cases h; infer_instance
    | 10, h => cases h; infer_instance
    | j + 11, h => simp at h, inferInstance, fun k h => by
    cases h⟩
theorem tf272 : TFact Tryd.prog 272 (.st 11 [(0, 1, false), (1, 1, false), (2, 1, false), (3, 1, false), (4, 1, false), (5, 1, false), (6, 1, false), (7, 1, false), (8, 1, false), (9, 1, false), (10, 1, false)] none) := ⟨inferInstance, fun i off n ag h => by
    match i, h with
    | 0, h => cases h; infer_instance
    | 1, h => cases h; infer_instance
    | 2, h => cases h; infer_instance
    | 3, h => cases h; infer_instance
    | 4, h => cases h; infer_instance
    | 5, h => cases h; infer_instance
    | 6, h => cases h; infer_instance
    | 7, h => cases h; infer_instance
    | 8, h => cases h; infer_instance
    | 9, h => cases h; infer_instance
    | 10, h => cases h; infer_instance
    | j + 11, h => simp at h, inferInstance, fun k h => by
    cases h⟩
def TAB : List (Nat × TI) := [(0, .one), (1, .one), (2, .int .i64), (3, .int .i64), (4, .bool), (5, .int .u8), (6, .int .u8), (7, .st 4 [(0, 1, false), (1, 1, false), (2, 1, false), (3, 1, false)] (some [0, 0, 2, 0])), (8, .st 4 [(0, 1, false), (1, 1, false), (2, 1, false), (3, 1, false)] (some [0, 0, 2, 0])), (9, .str), (10, .str), (11, .str), (12, .int .u64), (13, .st 2 [(0, 1, false), (1, 1, false)] none), (14, .st 2 [(0, 1, false), (1, 1, false)] none), (15, .one), (16, .one), (17, .one), (18, .st 1 [(0, 1, false)] none), (19, .st 1 [(0, 1, false)] none), (20, .one), (21, .int .i32), (22, .st 9 [(0, 1, false), (1, 1, false), (2, 1, false), (3, 1, false), (4, 1, false), (5, 1, false), (6, 1, false), (7, 1, false), (8, 1, false)] (some [1, 1, 1, 1, 0, 0, 2, 0, 2])), (23, .st 9 [(0, 1, false), (1, 1, false), (2, 1, false), (3, 1, false), (4, 1, false), (5, 1, false), (6, 1, false), (7, 1, false), (8, 1, false)] (some [1, 1, 1, 1, 0, 0, 2, 0, 2])), (24, .int .i64), (25, .one), (26, .one), (27, .one), (28, .one), (29, .sl 95 2 40 [.string ⟨#[]⟩, .slice none 0 0]), (30, .st 2 [(0, 1, false), (1, 1, false)] (some [1, 1])), (31, .st 2 [(0, 1, false), (1, 1, false)] (some [1, 1])), (32, .one), (33, .one), (34, .one), (35, .one), (36, .st 6 [(0, 1, false), (1, 1, false), (2, 1, false), (3, 1, false), (4, 1, false), (5, 1, false)] (some [1, 1, 1, 1, 0, 2])), (37, .st 6 [(0, 1, false), (1, 1, false), (2, 1, false), (3, 1, false), (4, 1, false), (5, 1, false)] (some [1, 1, 1, 1, 0, 2])), (38, .one), (39, .one), (40, .one), (41, .st 2 [(0, 1, false), (1, 1, false)] (some [0, 0])), (42, .st 2 [(0, 1, false), (1, 1, false)] (some [0, 0])), (43, .sl 50 3 32 [.int .i64 0, .int .i64 0, .string ⟨#[]⟩]), (44, .sl 48 2 16 [.int .i64 0, .int .i64 0]), (45, .one), (46, .one), (47, .st 2 [(0, 1, false), (1, 1, false)] (some [0, 0])), (48, .st 2 [(0, 1, false), (1, 1, false)] (some [0, 0])), (49, .st 3 [(0, 1, false), (1, 1, false), (2, 1, false)] (some [0, 0, 1])), (50, .st 3 [(0, 1, false), (1, 1, false), (2, 1, false)] (some [0, 0, 1])), (51, .sl 3 1 8 [.int .i64 0]), (52, .one), (53, .one), (54, .one), (55, .one), (56, .one), (57, .one), (58, .one), (59, .sl 23 9 104 [.string ⟨#[]⟩, .string ⟨#[]⟩, .string ⟨#[]⟩, .string ⟨#[]⟩, .int .i64 0, .int .i64 0, .bool false, .int .i64 0, .bool false]), (60, .one), (61, .one), (62, .one), (63, .sl 68 2 16 [.int .i64 0, .int .i64 0]), (64, .one), (65, .one), (66, .one), (67, .st 2 [(0, 1, false), (1, 1, false)] (some [0, 0])), (68, .st 2 [(0, 1, false), (1, 1, false)] (some [0, 0])), (69, .one), (70, .one), (71, .one), (72, .one), (73, .one), (74, .one), (75, .one), (76, .one), (77, .one), (78, .one), (79, .sl 5 1 1 [.int .u8 0]), (80, .st 3 [(0, 1, false), (1, 1, false), (2, 1, false)] (some [0, 1, 0])), (81, .st 3 [(0, 1, false), (1, 1, false), (2, 1, false)] (some [0, 1, 0])), (82, .one), (83, .one), (84, .one), (85, .one), (86, .one), (87, .one), (88, .one), (89, .one), (90, .one), (91, .one), (92, .mp 31 4 (.st [1, 1]) (.bool false)), (93, .sl 31 2 32 [.string ⟨#[]⟩, .string ⟨#[]⟩]), (94, .st 2 [(0, 1, false), (1, 1, false)] none), (95, .st 2 [(0, 1, false), (1, 1, false)] none), (96, .one), (97, .one), (98, .one), (99, .one), (100, .one), (101, .one), (102, .one), (103, .mp 3 3 (.int .i64) (.int .i64 0)), (104, .st 9 [(0, 2, true), (2, 1, false), (3, 1, false), (4, 1, false), (5, 1, false), (6, 1, false), (7, 1, false), (8, 1, false)] none), (105, .st 9 [(0, 2, true), (2, 1, false), (3, 1, false), (4, 1, false), (5, 1, false), (6, 1, false), (7, 1, false), (8, 1, false)] none), (106, .one), (107, .sl 117 2 16 [.int .i64 0, .int .i64 0]), (108, .st 8 [(0, 2, true), (2, 1, false), (3, 1, false), (4, 1, false), (5, 1, false), (6, 1, false), (7, 1, false)] none), (109, .st 8 [(0, 2, true), (2, 1, false), (3, 1, false), (4, 1, false), (5, 1, false), (6, 1, false), (7, 1, false)] none), (110, .one), (111, .one), (112, .one), (113, .one), (114, .one), (115, .one), (116, .st 2 [(0, 1, false), (1, 1, false)] (some [0, 0])), (117, .st 2 [(0, 1, false), (1, 1, false)] (some [0, 0])), (118, .one), (119, .one), (120, .one), (121, .one), (122, .one), (123, .one), (124, .one), (125, .one), (126, .one), (127, .one), (128, .one), (129, .one), (130, .sl 9 1 16 [.string ⟨#[]⟩]), (131, .one), (132, .one), (133, .one), (134, .one), (135, .one), (136, .one), (137, .one), (138, .one), (139, .one), (140, .one), (141, .one), (142, .one), (143, .one), (144, .one), (145, .one), (146, .one), (147, .one), (148, .one), (149, .one), (150, .one), (151, .one), (152, .one), (153, .one), (154, .one), (155, .one), (156, .one), (157, .one), (158, .one), (159, .one), (162, .one), (163, .one), (164, .one), (165, .one), (166, .one), (167, .one), (168, .one), (169, .one), (170, .one), (171, .one), (172, .one), (173, .int .u64), (174, .one), (175, .one), (176, .one), (177, .int .u64), (178, .one), (179, .one), (180, .sl 79 1 24 [.slice none 0 0]), (181, .one), (182, .one), (183, .one), (184, .one), (185, .one), (186, .one), (187, .one), (188, .one), (189, .one), (190, .one), (191, .one), (192, .int .i64), (193, .one), (194, .one), (195, .one), (196, .one), (197, .one), (198, .one), (199, .one), (200, .int .u32), (201, .one), (202, .one), (203, .one), (204, .one), (205, .one), (206, .one), (207, .st 2 [(0, 1, false), (1, 1, false)] none), (208, .st 2 [(0, 1, false), (1, 1, false)] none), (209, .one), (210, .one), (211, .int .i64), (212, .one), (213, .one), (214, .one), (215, .one), (216, .one), (217, .one), (218, .int .u64), (219, .one), (220, .one), (221, .one), (222, .one), (223, .one), (225, .one), (226, .one), (227, .one), (228, .one), (229, .one), (230, .one), (231, .one), (232, .one), (233, .one), (234, .one), (235, .one), (236, .one), (237, .one), (238, .st 3 [(0, 1, false), (1, 1, false), (2, 1, false)] none), (239, .st 3 [(0, 1, false), (1, 1, false), (2, 1, false)] none), (240, .one), (242, .st 2 [(0, 1, false), (1, 1, false)] (some [0, 0])), (243, .st 2 [(0, 1, false), (1, 1, false)] (some [0, 0])), (245, .one), (246, .one), (247, .one), (248, .one), (251, .one), (252, .one), (253, .one), (254, .one), (255, .one), (256, .st 1 [(0, 1, false)] (some [1])), (257, .st 1 [(0, 1, false)] (some [1])), (258, .one), (261, .st 4 [(0, 1, false), (1, 1, false), (2, 1, false), (3, 1, false)] none), (262, .st 4 [(0, 1, false), (1, 1, false), (2, 1, false), (3, 1, false)] none), (266, .int .u8), (267, .int .u8), (268, .one), (269, .int .i32), (270, .int .i32), (271, .st 11 [(0, 1, false), (1, 1, false), (2, 1, false), (3, 1, false), (4, 1, false), (5, 1, false), (6, 1, false), (7, 1, false), (8, 1, false), (9, 1, false), (10, 1, false)] none), (272, .st 11 [(0, 1, false), (1, 1, false), (2, 1, false), (3, 1, false), (4, 1, false), (5, 1, false), (6, 1, false), (7, 1, false), (8, 1, false), (9, 1, false), (10, 1, false)] none)]
def ZAB : List (Nat × List Value) := [(1, [.nilFunc]), (2, [.int .i64 0]), (3, [.int .i64 0]), (4, [.bool false]), (5, [.int .u8 0]), (6, [.int .u8 0]), (7, [.int .i64 0, .int .i64 0, .bool false, .int .u8 0]), (8, [.int .i64 0, .int .i64 0, .bool false, .int .u8 0]), (9, [.string ⟨#[]⟩]), (10, [.string ⟨#[]⟩]), (11, [.string ⟨#[]⟩]), (12, [.int .u64 0]), (13, [.string ⟨#[]⟩, .int .u64 0]), (14, [.string ⟨#[]⟩, .int .u64 0]), (15, [.pointer none]), (16, [.pointer none]), (17, [.pointer none]), (18, [.pointer none]), (19, [.pointer none]), (20, [.nilIface]), (21, [.int .i32 0]), (22, [.string ⟨#[]⟩, .string ⟨#[]⟩, .string ⟨#[]⟩, .string ⟨#[]⟩, .int .i64 0, .int .i64 0, .bool false, .int .i64 0, .bool false]), (23, [.string ⟨#[]⟩, .string ⟨#[]⟩, .string ⟨#[]⟩, .string ⟨#[]⟩, .int .i64 0, .int .i64 0, .bool false, .int .i64 0, .bool false]), (24, [.int .i64 0]), (26, [.nilFunc]), (27, [.nilFunc]), (28, [.nilFunc]), (29, [.slice none 0 0]), (30, [.string ⟨#[]⟩, .string ⟨#[]⟩]), (31, [.string ⟨#[]⟩, .string ⟨#[]⟩]), (33, [.nilFunc]), (34, [.nilFunc]), (35, [.nilFunc]), (36, [.string ⟨#[]⟩, .string ⟨#[]⟩, .string ⟨#[]⟩, .string ⟨#[]⟩, .int .i64 0, .bool false]), (37, [.string ⟨#[]⟩, .string ⟨#[]⟩, .string ⟨#[]⟩, .string ⟨#[]⟩, .int .i64 0, .bool false]), (39, [.nilFunc]), (40, [.nilFunc]), (41, [.int .i64 0, .int .i64 0]), (42, [.int .i64 0, .int .i64 0]), (43, [.slice none 0 0]), (44, [.slice none 0 0]), (46, [.nilFunc]), (47, [.int .i64 0, .int .i64 0]), (48, [.int .i64 0, .int .i64 0]), (49, [.int .i64 0, .int .i64 0, .string ⟨#[]⟩]), (50, [.int .i64 0, .int .i64 0, .string ⟨#[]⟩]), (51, [.slice none 0 0]), (53, [.nilFunc]), (54, [.nilFunc]), (55, [.nilFunc]), (56, [.nilFunc]), (57, [.nilFunc]), (58, [.nilFunc]), (59, [.slice none 0 0]), (61, [.nilFunc]), (62, [.nilFunc]), (63, [.slice none 0 0]), (65, [.nilFunc]), (66, [.nilFunc]), (67, [.int .i64 0, .int .i64 0]), (68, [.int .i64 0, .int .i64 0]), (69, [.nilFunc]), (70, [.nilFunc]), (71, [.nilFunc]), (72, [.nilFunc]), (73, [.nilFunc]), (74, [.nilFunc]), (75, [.nilFunc]), (76, [.nilFunc]), (77, [.nilFunc]), (78, [.nilFunc]), (79, [.slice none 0 0]), (80, [.int .i64 0, .string ⟨#[]⟩, .int .i64 0]), (81, [.int .i64 0, .string ⟨#[]⟩, .int .i64 0]), (83, [.nilFunc]), (85, [.nilFunc]), (86, [.nilFunc]), (87, [.nilFunc]), (88, [.nilFunc]), (89, [.nilFunc]), (90, [.nilFunc]), (91, [.nilFunc]), (92, [.map none]), (93, [.slice none 0 0]), (94, [.string ⟨#[]⟩, .slice none 0 0]), (95, [.string ⟨#[]⟩, .slice none 0 0]), (96, [.nilFunc]), (97, [.nilFunc]), (98, [.nilFunc]), (99, [.nilFunc]), (100, [.pointer none]), (102, [.nilFunc]), (103, [.map none]), (104, [.int .i64 0, .int .i64 0, .int .i64 0, .slice none 0 0, .int .i64 0, .map none, .map none, .slice none 0 0, .slice none 0 0]), (105, [.int .i64 0, .int .i64 0, .int .i64 0, .slice none 0 0, .int .i64 0, .map none, .map none, .slice none 0 0, .slice none 0 0]), (106, [.nilFunc]), (107, [.slice none 0 0]), (108, [.int .i64 0, .int .i64 0, .int .i64 0, .slice none 0 0, .slice none 0 0, .int .i64 0, .slice none 0 0, .slice none 0 0]), (109, [.int .i64 0, .int .i64 0, .int .i64 0, .slice none 0 0, .slice none 0 0, .int .i64 0, .slice none 0 0, .slice none 0 0]), (110, [.pointer none]), (111, [.nilFunc]), (112, [.nilFunc]), (113, [.nilFunc]), (114, [.nilFunc]), (115, [.nilFunc]), (116, [.int .i64 0, .int .i64 0]), (117, [.int .i64 0, .int .i64 0]), (118, [.nilFunc]), (119, [.nilFunc]), (120, [.nilFunc]), (121, [.nilFunc]), (122, [.nilFunc]), (123, [.nilFunc]), (124, [.nilFunc]), (125, [.nilFunc]), (126, [.nilFunc]), (127, [.nilFunc]), (128, [.nilFunc]), (129, [.nilFunc]), (130, [.slice none 0 0]), (132, [.nilFunc]), (134, [.nilFunc]), (135, [.nilFunc]), (136, [.nilFunc]), (137, [.nilFunc]), (138, [.nilFunc]), (139, [.nilFunc]), (140, [.nilFunc]), (141, [.nilFunc]), (142, [.nilFunc]), (143, [.nilFunc]), (144, [.nilFunc]), (145, [.nilFunc]), (146, [.nilFunc]), (147, [.nilFunc]), (148, [.nilFunc]), (149, [.nilFunc]), (150, [.nilFunc]), (151, [.nilFunc]), (152, [.nilFunc]), (153, [.nilFunc]), (154, [.nilFunc]), (155, [.nilIface]), (156, [.nilIface]), (158, [.nilFunc]), (159, [.nilFunc]), (163, [.nilFunc]), (164, [.nilFunc]), (165, [.pointer none]), (166, [.nilFunc]), (167, [.nilFunc]), (168, [.pointer none]), (169, [.nilFunc]), (170, [.nilFunc]), (171, [.nilFunc]), (172, [.nilFunc]), (173, [.int .u64 0]), (174, [.nilFunc]), (175, [.nilFunc]), (176, [.nilFunc]), (177, [.int .u64 0]), (178, [.nilFunc]), (179, [.nilFunc]), (180, [.slice none 0 0]), (181, [.nilFunc]), (182, [.nilFunc]), (183, [.nilFunc]), (184, [.nilFunc]), (186, [.nilFunc]), (187, [.nilFunc]), (188, [.nilFunc]), (189, [.nilFunc]), (190, [.nilFunc]), (191, [.nilFunc]), (192, [.int .i64 0]), (194, [.nilFunc]), (195, [.nilFunc]), (196, [.nilFunc]), (197, [.nilFunc]), (198, [.nilFunc]), (199, [.nilFunc]), (200, [.int .u32 0]), (201, [.nilFunc]), (202, [.nilFunc]), (204, [.nilFunc]), (205, [.nilFunc]), (206, [.pointer none]), (207, [.pointer none, .slice none 0 0]), (208, [.pointer none, .slice none 0 0]), (209, [.nilFunc]), (210, [.nilFunc]), (211, [.int .i64 0]), (213, [.nilFunc]), (214, [.pointer none]), (215, [.nilFunc]), (216, [.nilFunc]), (217, [.nilFunc]), (218, [.int .u64 0]), (219, [.nilFunc]), (220, [.nilFunc]), (221, [.nilFunc]), (222, [.pointer none]), (223, [.nilFunc]), (225, [.nilFunc]), (227, [.nilFunc]), (229, [.nilFunc]), (231, [.nilFunc]), (232, [.pointer none]), (233, [.nilFunc]), (234, [.nilFunc]), (236, [.nilFunc]), (237, [.nilFunc]), (238, [.string ⟨#[]⟩, .string ⟨#[]⟩, .nilIface]), (239, [.string ⟨#[]⟩, .string ⟨#[]⟩, .nilIface]), (240, [.nilFunc]), (242, [.int .u8 0, .int .u8 0]), (243, [.int .u8 0, .int .u8 0]), (245, [.nilFunc]), (246, [.pointer none]), (248, [.nilFunc]), (252, [.nilFunc]), (253, [.nilFunc]), (254, [.nilFunc]), (255, [.pointer none]), (256, [.string ⟨#[]⟩]), (257, [.string ⟨#[]⟩]), (258, [.nilFunc]), (261, [.pointer none, .pointer none, .pointer none, .string ⟨#[]⟩]), (262, [.pointer none, .pointer none, .pointer none, .string ⟨#[]⟩]), (266, [.int .u8 0]), (267, [.int .u8 0]), (268, [.nilFunc]), (269, [.int .i32 0]), (270, [.int .i32 0]), (271, [.int .u64 0, .int .u64 0, .int .u32 0, .int .u8 0, .int .u8 0, .int .u8 0, .int .u8 0, .nilFunc, .pointer none, .int .i32 0, .int .i32 0]), (272, [.int .u64 0, .int .u64 0, .int .u32 0, .int .u8 0, .int .u8 0, .int .u8 0, .int .u8 0, .nilFunc, .pointer none, .int .i32 0, .int .i32 0])]
def T : Nat → Option TI := lookT TAB
def Z : Nat → Option (List Value) := lookT ZAB
theorem hT : TOk Tryd.prog T Z := by
  refine ⟨fun t i h => ?_, fun t z h => ?_⟩
  · have hall : AllT (TFact Tryd.prog) TAB := by
      unfold TAB
      exact ⟨tf0, tf1, tf2, tf3, tf4, tf5, tf6, tf7, tf8, tf9, tf10, tf11, tf12, tf13, tf14, tf15, tf16, tf17, tf18, tf19, tf20, tf21, tf22, tf23, tf24, tf25, tf26, tf27, tf28, tf29, tf30, tf31, tf32, tf33, tf34, tf35, tf36, tf37, tf38, tf39, tf40, tf41, tf42, tf43, tf44, tf45, tf46, tf47, tf48, tf49, tf50, tf51, tf52, tf53, tf54, tf55, tf56, tf57, tf58, tf59, tf60, tf61, tf62, tf63, tf64, tf65, tf66, tf67, tf68, tf69, tf70, tf71, tf72, tf73, tf74, tf75, tf76, tf77, tf78, tf79, tf80, tf81, tf82, tf83, tf84, tf85, tf86, tf87, tf88, tf89, tf90, tf91, tf92, tf93, tf94, tf95, tf96, tf97, tf98, tf99, tf100, tf101, tf102, tf103, tf104, tf105, tf106, tf107, tf108, tf109, tf110, tf111, tf112, tf113, tf114, tf115, tf116, tf117, tf118, tf119, tf120, tf121, tf122, tf123, tf124, tf125, tf126, tf127, tf128, tf129, tf130, tf131, tf132, tf133, tf134, tf135, tf136, tf137, tf138, tf139, tf140, tf141, tf142, tf143, tf144, tf145, tf146, tf147, tf148, tf149, tf150, tf151, tf152, tf153, tf154, tf155, tf156, tf157, tf158, tf159, tf162, tf163, tf164, tf165, tf166, tf167, tf168, tf169, tf170, tf171, tf172, tf173, tf174, tf175, tf176, tf177, tf178, tf179, tf180, tf181, tf182, tf183, tf184, tf185, tf186, tf187, tf188, tf189, tf190, tf191, tf192, tf193, tf194, tf195, tf196, tf197, tf198, tf199, tf200, tf201, tf202, tf203, tf204, tf205, tf206, tf207, tf208, tf209, tf210, tf211, tf212, tf213, tf214, tf215, tf216, tf217, tf218, tf219, tf220, tf221, tf222, tf223, tf225, tf226, tf227, tf228, tf229, tf230, tf231, tf232, tf233, tf234, tf235, tf236, tf237, tf238, tf239, tf240, tf242, tf243, tf245, tf246, tf247, tf248, tf251, tf252, tf253, tf254, tf255, tf256, tf257, tf258, tf261, tf262, tf266, tf267, tf268, tf269, tf270, tf271, tf272, trivial⟩
    exact hall.at h
  · have hall : AllT (TZer Tryd.prog) ZAB := by
      unfold ZAB
      exact ⟨inferInstance, inferInstance, inferInstance, inferInstance, inferInstance, inferInstance, inferInstance, inferInstance, inferInstance, inferInstance, inferInstance, inferInstance, inferInstance, inferInstance, inferInstance, inferInstance, inferInstance, inferInstance, inferInstance, inferInstance, inferInstance, inferInstance, inferInstance, inferInstance, inferInstance, inferInstance, inferInstance, inferInstance, inferInstance, inferInstance, inferInstance, inferInstance, inferInstance, inferInstance, inferInstance, inferInstance, inferInstance, inferInstance, inferInstance, inferInstance, inferInstance, inferInstance, inferInstance, inferInstance, inferInstance, inferInstance, inferInstance, inferInstance, inferInstance, inferInstance, inferInstance, inferInstance, inferInstance, inferInstance, inferInstance, inferInstance, inferInstance, inferInstance, inferInstance, inferInstance, inferInstance, inferInstance, inferInstance, inferInstance, inferInstance, inferInstance, inferInstance, inferInstance, inferInstance, inferInstance, inferInstance, inferInstance, inferInstance, inferInstance, inferInstance, inferInstance, inferInstance, inferInstance, inferInstance, inferInstance, inferInstance, inferInstance, inferInstance, inferInstance, inferInstance, inferInstance, inferInstance, inferInstance, inferInstance, inferInstance, inferInstance, inferInstance, inferInstance, inferInstance, inferInstance, inferInstance, inferInstance, inferInstance, inferInstance, inferInstance, inferInstance, inferInstance, inferInstance, inferInstance, inferInstance, inferInstance, inferInstance, inferInstance, inferInstance, inferInstance, inferInstance, inferInstance, inferInstance, inferInstance, inferInstance, inferInstance, inferInstance, inferInstance, inferInstance, inferInstance, inferInstance, inferInstance, inferInstance, inferInstance, inferInstance, inferInstance, inferInstance, inferInstance, inferInstance, inferInstance, inferInstance, inferInstance, inferInstance, inferInstance, inferInstance, inferInstance, inferInstance, inferInstance, inferInstance, inferInstance, inferInstance, inferInstance, inferInstance, inferInstance, inferInstance, inferInstance, inferInstance, inferInstance, inferInstance, inferInstance, inferInstance, inferInstance, inferInstance, inferInstance, inferInstance, inferInstance, inferInstance, inferInstance, inferInstance, inferInstance, inferInstance, inferInstance, inferInstance, inferInstance, inferInstance, inferInstance, inferInstance, inferInstance, inferInstance, inferInstance, inferInstance, inferInstance, inferInstance, inferInstance, inferInstance, inferInstance, inferInstance, inferInstance, inferInstance, inferInstance, inferInstance, inferInstance, inferInstance, inferInstance, inferInstance, inferInstance, inferInstance, inferInstance, inferInstance, inferInstance, inferInstance, inferInstance, inferInstance, inferInstance, inferInstance, inferInstance, inferInstance, inferInstance, inferInstance, inferInstance, inferInstance, inferInstance, inferInstance, inferInstance, inferInstance, inferInstance, inferInstance, inferInstance, inferInstance, inferInstance, inferInstance, inferInstance, inferInstance, inferInstance, inferInstance, inferInstance, inferInstance, inferInstance, inferInstance, inferInstance, inferInstance, inferInstance, inferInstance, inferInstance, inferInstance, inferInstance, inferInstance, inferInstance, inferInstance, inferInstance, inferInstance, inferInstance, inferInstance, inferInstance, inferInstance, inferInstance, trivial⟩
    exact hall.at h
theorem hM : Tryd.prog.follows .mixedOrders = true := by kernel_rfl
end Go.Proofs.YtdopillligfdiaaDoor
