/- The tables of types for the data machine. (Written by wip/dtab.py.). -/
import Derived.Test.YtkjgmjocikmplaaDoorZ10
import Derived.Test.YtkjgmjocikmplaaDoorZ4
namespace Go.Proofs.YtkjgmjocikmplaaDoor
open Go.RowKit
def lookT {α : Type} : List (Nat × α) → Nat → Option α
  | [], _ => none
  | (k, v) :: r, t => match Nat.beq k t with
    | true => some v
    | false => lookT r t
def AllT {α : Type} (R : Nat → α → Prop) : List (Nat × α) → Prop
  | [] => True
  | (k, v) :: l => R k v ∧ AllT R l
theorem AllT.at {α : Type} {R : Nat → α → Prop} : ∀ {l : List (Nat × α)} {t : Nat} {x : α}, AllT R l → lookT l t = some x → R t x
  | [], _, _, _, h => by cases h
  | (k, v) :: r, t, x, ha, h => by
    simp only [lookT] at h
    split at h
    · rename_i hk
      have hk := Nat.eq_of_beq_eq_true hk
      cases h
      subst hk
      exact ha.1
    · exact AllT.at ha.2 h
set_option maxRecDepth 100000
theorem tf0 : TFact Tryd.prog 0 (.one) := (inferInstance : TOne Tryd.prog 0)
theorem tf1 : TFact Tryd.prog 1 (.one) := (inferInstance : TOne Tryd.prog 1)
theorem tf2 : TFact Tryd.prog 2 (.int .i64) := ⟨inferInstance, inferInstance⟩
theorem tf3 : TFact Tryd.prog 3 (.int .i64) := ⟨inferInstance, inferInstance⟩
theorem tf4 : TFact Tryd.prog 4 (.bool) := ⟨inferInstance, inferInstance⟩
theorem tf5 : TFact Tryd.prog 5 (.int .u8) := ⟨inferInstance, inferInstance⟩
theorem tf6 : TFact Tryd.prog 6 (.int .u8) := ⟨inferInstance, inferInstance⟩
theorem tf7 : TFact Tryd.prog 7 (.st 4 [(0, 1, false), (1, 1, false), (2, 1, false), (3, 1, false)] (some [0, 0, 2, 0])) := ⟨inferInstance, fun i off n ag h => by
    match i, h with
    | 0, h => cases h; infer_instance
    | 1, h => cases h; infer_instance
    | 2, h => cases h; infer_instance
    | 3, h => cases h; infer_instance
    | j + 4, h => simp at h, inferInstance, fun k h => by
    cases h; infer_instance⟩
theorem tf8 : TFact Tryd.prog 8 (.st 4 [(0, 1, false), (1, 1, false), (2, 1, false), (3, 1, false)] (some [0, 0, 2, 0])) := ⟨inferInstance, fun i off n ag h => by
    match i, h with
    | 0, h => cases h; infer_instance
    | 1, h => cases h; infer_instance
    | 2, h => cases h; infer_instance
    | 3, h => cases h; infer_instance
    | j + 4, h => simp at h, inferInstance, fun k h => by
    cases h; infer_instance⟩
theorem tf9 : TFact Tryd.prog 9 (.str) := ⟨inferInstance, inferInstance⟩
theorem tf10 : TFact Tryd.prog 10 (.str) := ⟨inferInstance, inferInstance⟩
theorem tf11 : TFact Tryd.prog 11 (.str) := ⟨inferInstance, inferInstance⟩
theorem tf12 : TFact Tryd.prog 12 (.int .u64) := ⟨inferInstance, inferInstance⟩
theorem tf13 : TFact Tryd.prog 13 (.st 2 [(0, 1, false), (1, 1, false)] none) := ⟨inferInstance, fun i off n ag h => by
    match i, h with
    | 0, h => cases h; infer_instance
    | 1, h => cases h; infer_instance
    | j + 2, h => simp at h, inferInstance, fun k h => by
    cases h⟩
theorem tf14 : TFact Tryd.prog 14 (.st 2 [(0, 1, false), (1, 1, false)] none) := ⟨inferInstance, fun i off n ag h => by
    match i, h with
    | 0, h => cases h; infer_instance
    | 1, h => cases h; infer_instance
    | j + 2, h => simp at h, inferInstance, fun k h => by
    cases h⟩
theorem tf15 : TFact Tryd.prog 15 (.one) := (inferInstance : TOne Tryd.prog 15)
theorem tf16 : TFact Tryd.prog 16 (.one) := (inferInstance : TOne Tryd.prog 16)
theorem tf17 : TFact Tryd.prog 17 (.one) := (inferInstance : TOne Tryd.prog 17)
theorem tf18 : TFact Tryd.prog 18 (.st 1 [(0, 1, false)] none) := ⟨inferInstance, fun i off n ag h => by
    match i, h with
    | 0, h => cases h; infer_instance
    | j + 1, h => simp at h, inferInstance, fun k h => by
    cases h⟩
theorem tf19 : TFact Tryd.prog 19 (.st 1 [(0, 1, false)] none) := ⟨inferInstance, fun i off n ag h => by
    match i, h with
    | 0, h => cases h; infer_instance
    | j + 1, h => simp at h, inferInstance, fun k h => by
    cases h⟩
theorem tf20 : TFact Tryd.prog 20 (.ifc) := ⟨inferInstance, inferInstance⟩
theorem tf21 : TFact Tryd.prog 21 (.int .i32) := ⟨inferInstance, inferInstance⟩
theorem tf22 : TFact Tryd.prog 22 (.sl 5 1 1 [.int .u8 0]) := ⟨inferInstance, inferInstance, inferInstance, inferInstance, inferInstance⟩
theorem tf23 : TFact Tryd.prog 23 (.st 3 [(0, 1, false), (1, 1, false), (2, 1, false)] (some [0, 1, 0])) := ⟨inferInstance, fun i off n ag h => by
    match i, h with
    | 0, h => cases h; infer_instance
    | 1, h => cases h; infer_instance
    | 2, h => cases h; infer_instance
    | j + 3, h => simp at h, inferInstance, fun k h => by
    cases h; infer_instance⟩
theorem tf24 : TFact Tryd.prog 24 (.st 3 [(0, 1, false), (1, 1, false), (2, 1, false)] (some [0, 1, 0])) := ⟨inferInstance, fun i off n ag h => by
    match i, h with
    | 0, h => cases h; infer_instance
    | 1, h => cases h; infer_instance
    | 2, h => cases h; infer_instance
    | j + 3, h => simp at h, inferInstance, fun k h => by
    cases h; infer_instance⟩
theorem tf25 : TFact Tryd.prog 25 (.int .i64) := ⟨inferInstance, inferInstance⟩
theorem tf26 : TFact Tryd.prog 26 (.one) := (inferInstance : TOne Tryd.prog 26)
theorem tf27 : TFact Tryd.prog 27 (.one) := (inferInstance : TOne Tryd.prog 27)
theorem tf28 : TFact Tryd.prog 28 (.one) := (inferInstance : TOne Tryd.prog 28)
theorem tf29 : TFact Tryd.prog 29 (.one) := (inferInstance : TOne Tryd.prog 29)
theorem tf30 : TFact Tryd.prog 30 (.one) := (inferInstance : TOne Tryd.prog 30)
theorem tf31 : TFact Tryd.prog 31 (.one) := (inferInstance : TOne Tryd.prog 31)
theorem tf32 : TFact Tryd.prog 32 (.one) := (inferInstance : TOne Tryd.prog 32)
theorem tf33 : TFact Tryd.prog 33 (.one) := (inferInstance : TOne Tryd.prog 33)
theorem tf34 : TFact Tryd.prog 34 (.one) := (inferInstance : TOne Tryd.prog 34)
theorem tf35 : TFact Tryd.prog 35 (.one) := (inferInstance : TOne Tryd.prog 35)
theorem tf36 : TFact Tryd.prog 36 (.one) := (inferInstance : TOne Tryd.prog 36)
theorem tf37 : TFact Tryd.prog 37 (.one) := (inferInstance : TOne Tryd.prog 37)
theorem tf38 : TFact Tryd.prog 38 (.st 2 [(0, 1, false), (1, 1, false)] (some [0, 0])) := ⟨inferInstance, fun i off n ag h => by
    match i, h with
    | 0, h => cases h; infer_instance
    | 1, h => cases h; infer_instance
    | j + 2, h => simp at h, inferInstance, fun k h => by
    cases h; infer_instance⟩
theorem tf39 : TFact Tryd.prog 39 (.st 2 [(0, 1, false), (1, 1, false)] (some [0, 0])) := ⟨inferInstance, fun i off n ag h => by
    match i, h with
    | 0, h => cases h; infer_instance
    | 1, h => cases h; infer_instance
    | j + 2, h => simp at h, inferInstance, fun k h => by
    cases h; infer_instance⟩
theorem tf40 : TFact Tryd.prog 40 (.sl 9 1 16 [.string ⟨#[]⟩]) := ⟨inferInstance, inferInstance, inferInstance, inferInstance, inferInstance⟩
theorem tf41 : TFact Tryd.prog 41 (.one) := (inferInstance : TOne Tryd.prog 41)
theorem tf42 : TFact Tryd.prog 42 (.one) := (inferInstance : TOne Tryd.prog 42)
theorem tf43 : TFact Tryd.prog 43 (.one) := (inferInstance : TOne Tryd.prog 43)
theorem tf44 : TFact Tryd.prog 44 (.one) := (inferInstance : TOne Tryd.prog 44)
theorem tf45 : TFact Tryd.prog 45 (.one) := (inferInstance : TOne Tryd.prog 45)
theorem tf46 : TFact Tryd.prog 46 (.one) := (inferInstance : TOne Tryd.prog 46)
theorem tf47 : TFact Tryd.prog 47 (.one) := (inferInstance : TOne Tryd.prog 47)
theorem tf48 : TFact Tryd.prog 48 (.one) := (inferInstance : TOne Tryd.prog 48)
theorem tf49 : TFact Tryd.prog 49 (.one) := (inferInstance : TOne Tryd.prog 49)
theorem tf50 : TFact Tryd.prog 50 (.one) := (inferInstance : TOne Tryd.prog 50)
theorem tf51 : TFact Tryd.prog 51 (.one) := (inferInstance : TOne Tryd.prog 51)
theorem tf52 : TFact Tryd.prog 52 (.one) := (inferInstance : TOne Tryd.prog 52)
theorem tf53 : TFact Tryd.prog 53 (.one) := (inferInstance : TOne Tryd.prog 53)
theorem tf54 : TFact Tryd.prog 54 (.one) := (inferInstance : TOne Tryd.prog 54)
theorem tf55 : TFact Tryd.prog 55 (.ifc) := ⟨inferInstance, inferInstance⟩
theorem tf56 : TFact Tryd.prog 56 (.ifc) := ⟨inferInstance, inferInstance⟩
theorem tf57 : TFact Tryd.prog 57 (.one) := (inferInstance : TOne Tryd.prog 57)
theorem tf58 : TFact Tryd.prog 58 (.one) := (inferInstance : TOne Tryd.prog 58)
theorem tf59 : TFact Tryd.prog 59 (.int .u64) := ⟨inferInstance, inferInstance⟩
theorem tf60 : TFact Tryd.prog 60 (.one) := (inferInstance : TOne Tryd.prog 60)
theorem tf61 : TFact Tryd.prog 61 (.one) := (inferInstance : TOne Tryd.prog 61)
theorem tf62 : TFact Tryd.prog 62 (.sl 22 1 24 [.slice none 0 0]) := ⟨inferInstance, inferInstance, inferInstance, inferInstance, inferInstance⟩
theorem tf63 : TFact Tryd.prog 63 (.one) := (inferInstance : TOne Tryd.prog 63)
theorem tf64 : TFact Tryd.prog 64 (.one) := (inferInstance : TOne Tryd.prog 64)
theorem tf65 : TFact Tryd.prog 65 (.one) := (inferInstance : TOne Tryd.prog 65)
theorem tf68 : TFact Tryd.prog 68 (.one) := (inferInstance : TOne Tryd.prog 68)
theorem tf69 : TFact Tryd.prog 69 (.one) := (inferInstance : TOne Tryd.prog 69)
theorem tf70 : TFact Tryd.prog 70 (.one) := (inferInstance : TOne Tryd.prog 70)
theorem tf71 : TFact Tryd.prog 71 (.one) := (inferInstance : TOne Tryd.prog 71)
theorem tf72 : TFact Tryd.prog 72 (.one) := (inferInstance : TOne Tryd.prog 72)
theorem tf73 : TFact Tryd.prog 73 (.one) := (inferInstance : TOne Tryd.prog 73)
theorem tf74 : TFact Tryd.prog 74 (.one) := (inferInstance : TOne Tryd.prog 74)
theorem tf75 : TFact Tryd.prog 75 (.int .u64) := ⟨inferInstance, inferInstance⟩
theorem tf76 : TFact Tryd.prog 76 (.one) := (inferInstance : TOne Tryd.prog 76)
theorem tf77 : TFact Tryd.prog 77 (.one) := (inferInstance : TOne Tryd.prog 77)
theorem tf78 : TFact Tryd.prog 78 (.one) := (inferInstance : TOne Tryd.prog 78)
theorem tf79 : TFact Tryd.prog 79 (.one) := (inferInstance : TOne Tryd.prog 79)
theorem tf80 : TFact Tryd.prog 80 (.st 2 [(0, 1, false), (1, 1, false)] none) := ⟨inferInstance, fun i off n ag h => by
    match i, h with
    | 0, h => cases h; infer_instance
    | 1, h => cases h; infer_instance
    | j + 2, h => simp at h, inferInstance, fun k h => by
    cases h⟩
theorem tf81 : TFact Tryd.prog 81 (.st 2 [(0, 1, false), (1, 1, false)] none) := ⟨inferInstance, fun i off n ag h => by
    match i, h with
    | 0, h => cases h; infer_instance
    | 1, h => cases h; infer_instance
    | j + 2, h => simp at h, inferInstance, fun k h => by
    cases h⟩
theorem tf82 : TFact Tryd.prog 82 (.one) := (inferInstance : TOne Tryd.prog 82)
theorem tf83 : TFact Tryd.prog 83 (.one) := (inferInstance : TOne Tryd.prog 83)
theorem tf84 : TFact Tryd.prog 84 (.one) := (inferInstance : TOne Tryd.prog 84)
theorem tf85 : TFact Tryd.prog 85 (.one) := (inferInstance : TOne Tryd.prog 85)
theorem tf86 : TFact Tryd.prog 86 (.one) := (inferInstance : TOne Tryd.prog 86)
theorem tf87 : TFact Tryd.prog 87 (.one) := (inferInstance : TOne Tryd.prog 87)
theorem tf88 : TFact Tryd.prog 88 (.one) := (inferInstance : TOne Tryd.prog 88)
theorem tf89 : TFact Tryd.prog 89 (.one) := (inferInstance : TOne Tryd.prog 89)
theorem tf90 : TFact Tryd.prog 90 (.one) := (inferInstance : TOne Tryd.prog 90)
theorem tf91 : TFact Tryd.prog 91 (.int .i64) := ⟨inferInstance, inferInstance⟩
theorem tf92 : TFact Tryd.prog 92 (.one) := (inferInstance : TOne Tryd.prog 92)
theorem tf93 : TFact Tryd.prog 93 (.one) := (inferInstance : TOne Tryd.prog 93)
theorem tf94 : TFact Tryd.prog 94 (.one) := (inferInstance : TOne Tryd.prog 94)
theorem tf95 : TFact Tryd.prog 95 (.one) := (inferInstance : TOne Tryd.prog 95)
theorem tf96 : TFact Tryd.prog 96 (.one) := (inferInstance : TOne Tryd.prog 96)
theorem tf98 : TFact Tryd.prog 98 (.one) := (inferInstance : TOne Tryd.prog 98)
theorem tf99 : TFact Tryd.prog 99 (.one) := (inferInstance : TOne Tryd.prog 99)
theorem tf100 : TFact Tryd.prog 100 (.one) := (inferInstance : TOne Tryd.prog 100)
theorem tf101 : TFact Tryd.prog 101 (.one) := (inferInstance : TOne Tryd.prog 101)
theorem tf102 : TFact Tryd.prog 102 (.int .u32) := ⟨inferInstance, inferInstance⟩
theorem tf103 : TFact Tryd.prog 103 (.one) := (inferInstance : TOne Tryd.prog 103)
theorem tf104 : TFact Tryd.prog 104 (.one) := (inferInstance : TOne Tryd.prog 104)
theorem tf105 : TFact Tryd.prog 105 (.one) := (inferInstance : TOne Tryd.prog 105)
theorem tf106 : TFact Tryd.prog 106 (.one) := (inferInstance : TOne Tryd.prog 106)
theorem tf107 : TFact Tryd.prog 107 (.one) := (inferInstance : TOne Tryd.prog 107)
theorem tf108 : TFact Tryd.prog 108 (.one) := (inferInstance : TOne Tryd.prog 108)
theorem tf109 : TFact Tryd.prog 109 (.one) := (inferInstance : TOne Tryd.prog 109)
theorem tf110 : TFact Tryd.prog 110 (.one) := (inferInstance : TOne Tryd.prog 110)
theorem tf111 : TFact Tryd.prog 111 (.one) := (inferInstance : TOne Tryd.prog 111)
theorem tf112 : TFact Tryd.prog 112 (.one) := (inferInstance : TOne Tryd.prog 112)
theorem tf113 : TFact Tryd.prog 113 (.one) := (inferInstance : TOne Tryd.prog 113)
theorem tf114 : TFact Tryd.prog 114 (.st 3 [(0, 1, false), (1, 1, false), (2, 1, false)] none) := ⟨inferInstance, fun i off n ag h => by
    match i, h with
    | 0, h => cases h; infer_instance
    | 1, h => cases h; infer_instance
    | 2, h => cases h; infer_instance
    | j + 3, h => simp at h, inferInstance, fun k h => by
    cases h⟩
theorem tf115 : TFact Tryd.prog 115 (.st 3 [(0, 1, false), (1, 1, false), (2, 1, false)] none) := ⟨inferInstance, fun i off n ag h => by
    match i, h with
    | 0, h => cases h; infer_instance
    | 1, h => cases h; infer_instance
    | 2, h => cases h; infer_instance
    | j + 3, h => simp at h, inferInstance, fun k h => by
    cases h⟩
theorem tf116 : TFact Tryd.prog 116 (.one) := (inferInstance : TOne Tryd.prog 116)
theorem tf117 : TFact Tryd.prog 117 (.one) := (inferInstance : TOne Tryd.prog 117)
theorem tf118 : TFact Tryd.prog 118 (.one) := (inferInstance : TOne Tryd.prog 118)
theorem tf121 : TFact Tryd.prog 121 (.one) := (inferInstance : TOne Tryd.prog 121)
theorem tf122 : TFact Tryd.prog 122 (.one) := (inferInstance : TOne Tryd.prog 122)
theorem tf123 : TFact Tryd.prog 123 (.one) := (inferInstance : TOne Tryd.prog 123)
theorem tf124 : TFact Tryd.prog 124 (.one) := (inferInstance : TOne Tryd.prog 124)
theorem tf126 : TFact Tryd.prog 126 (.st 2 [(0, 1, false), (1, 1, false)] (some [0, 0])) := ⟨inferInstance, fun i off n ag h => by
    match i, h with
    | 0, h => cases h; infer_instance
    | 1, h => cases h; infer_instance
    | j + 2, h => simp at h, inferInstance, fun k h => by
    cases h; infer_instance⟩
theorem tf127 : TFact Tryd.prog 127 (.st 2 [(0, 1, false), (1, 1, false)] (some [0, 0])) := ⟨inferInstance, fun i off n ag h => by
    match i, h with
    | 0, h => cases h; infer_instance
    | 1, h => cases h; infer_instance
    | j + 2, h => simp at h, inferInstance, fun k h => by
    cases h; infer_instance⟩
theorem tf129 : TFact Tryd.prog 129 (.one) := (inferInstance : TOne Tryd.prog 129)
theorem tf130 : TFact Tryd.prog 130 (.one) := (inferInstance : TOne Tryd.prog 130)
theorem tf131 : TFact Tryd.prog 131 (.one) := (inferInstance : TOne Tryd.prog 131)
theorem tf132 : TFact Tryd.prog 132 (.st 1 [(0, 1, false)] (some [1])) := ⟨inferInstance, fun i off n ag h => by
    match i, h with
    | 0, h => cases h; infer_instance
    | j + 1, h => simp at h, inferInstance, fun k h => by
    cases h; infer_instance⟩
theorem tf133 : TFact Tryd.prog 133 (.st 1 [(0, 1, false)] (some [1])) := ⟨inferInstance, fun i off n ag h => by
    match i, h with
    | 0, h => cases h; infer_instance
    | j + 1, h => simp at h, inferInstance, fun k h => by
    cases h; infer_instance⟩
theorem tf134 : TFact Tryd.prog 134 (.one) := (inferInstance : TOne Tryd.prog 134)
theorem tf135 : TFact Tryd.prog 135 (.one) := (inferInstance : TOne Tryd.prog 135)
theorem tf138 : TFact Tryd.prog 138 (.st 4 [(0, 1, false), (1, 1, false), (2, 1, false), (3, 1, false)] none) := ⟨inferInstance, fun i off n ag h => by
    match i, h with
    | 0, h => cases h; infer_instance
    | 1, h => cases h; infer_instance
    | 2, h => cases h; infer_instance
    | 3, h => cases h; infer_instance
    | j + 4, h => simp at h, inferInstance, fun k h => by
    cases h⟩
theorem tf139 : TFact Tryd.prog 139 (.st 4 [(0, 1, false), (1, 1, false), (2, 1, false), (3, 1, false)] none) := ⟨inferInstance, fun i off n ag h => by
    match i, h with
    | 0, h => cases h; infer_instance
    | 1, h => cases h; infer_instance
    | 2, h => cases h; infer_instance
    | 3, h => cases h; infer_instance
    | j + 4, h => simp at h, inferInstance, fun k h => by
    cases h⟩
theorem tf143 : TFact Tryd.prog 143 (.int .u8) := ⟨inferInstance, inferInstance⟩
theorem tf144 : TFact Tryd.prog 144 (.int .u8) := ⟨inferInstance, inferInstance⟩
theorem tf145 : TFact Tryd.prog 145 (.one) := (inferInstance : TOne Tryd.prog 145)
theorem tf146 : TFact Tryd.prog 146 (.int .i32) := ⟨inferInstance, inferInstance⟩
theorem tf147 : TFact Tryd.prog 147 (.int .i32) := ⟨inferInstance, inferInstance⟩
theorem tf148 : TFact Tryd.prog 148 (.st 11 [(0, 1, false), (1, 1, false), (2, 1, false), (3, 1, false), (4, 1, false), (5, 1, false), (6, 1, false), (7, 1, false), (8, 1, false), (9, 1, false), (10, 1, false)] none) := ⟨inferInstance, fun i off n ag h => by
    match i, h with
    | 0, h => cases h; infer_instance
    | 1, h => cases h; infer_instance
    | 2, h => cases h; infer_instance
    | 3, h => cases h; infer_instance
    | 4, h => cases h; infer_instance
    | 5, h => cases h; infer_instance
    | 6, h => cases h; infer_instance
    | 7, h => cases h; infer_instance
    | 8, h => cases h; infer_instance
    | 9, h => cases h; infer_instance
    | 10, h => cases h; infer_instance
    | j + 11, h => simp at h, inferInstance, fun k h => by
    cases h⟩
theorem tf149 : TFact Tryd.prog 149 (.st 11 [(0, 1, false), (1, 1, false), (2, 1, false), (3, 1, false), (4, 1, false), (5, 1, false), (6, 1, false), (7, 1, false), (8, 1, false), (9, 1, false), (10, 1, false)] none) := ⟨inferInstance, fun i off n ag h => by
    match i, h with
    | 0, h => cases h; infer_instance
    | 1, h => cases h; infer_instance
    | 2, h => cases h; infer_instance
    | 3, h => cases h; infer_instance
    | 4, h => cases h; infer_instance
    | 5, h => cases h; infer_instance
    | 6, h => cases h; infer_instance
    | 7, h => cases h; infer_instance
    | 8, h => cases h; infer_instance
    | 9, h => cases h; infer_instance
    | 10, h => cases h; infer_instance
    | j + 11, h => simp at h, inferInstance, fun k h => by
    cases h⟩
def TAB : List (Nat × TI) := [(0, .one), (1, .one), (2, .int .i64), (3, .int .i64), (4, .bool), (5, .int .u8), (6, .int .u8), (7, .st 4 [(0, 1, false), (1, 1, false), (2, 1, false), (3, 1, false)] (some [0, 0, 2, 0])), (8, .st 4 [(0, 1, false), (1, 1, false), (2, 1, false), (3, 1, false)] (some [0, 0, 2, 0])), (9, .str), (10, .str), (11, .str), (12, .int .u64), (13, .st 2 [(0, 1, false), (1, 1, false)] none), (14, .st 2 [(0, 1, false), (1, 1, false)] none), (15, .one), (16, .one), (17, .one), (18, .st 1 [(0, 1, false)] none), (19, .st 1 [(0, 1, false)] none), (20, .ifc), (21, .int .i32), (22, .sl 5 1 1 [.int .u8 0]), (23, .st 3 [(0, 1, false), (1, 1, false), (2, 1, false)] (some [0, 1, 0])), (24, .st 3 [(0, 1, false), (1, 1, false), (2, 1, false)] (some [0, 1, 0])), (25, .int .i64), (26, .one), (27, .one), (28, .one), (29, .one), (30, .one), (31, .one), (32, .one), (33, .one), (34, .one), (35, .one), (36, .one), (37, .one), (38, .st 2 [(0, 1, false), (1, 1, false)] (some [0, 0])), (39, .st 2 [(0, 1, false), (1, 1, false)] (some [0, 0])), (40, .sl 9 1 16 [.string ⟨#[]⟩]), (41, .one), (42, .one), (43, .one), (44, .one), (45, .one), (46, .one), (47, .one), (48, .one), (49, .one), (50, .one), (51, .one), (52, .one), (53, .one), (54, .one), (55, .ifc), (56, .ifc), (57, .one), (58, .one), (59, .int .u64), (60, .one), (61, .one), (62, .sl 22 1 24 [.slice none 0 0]), (63, .one), (64, .one), (65, .one), (68, .one), (69, .one), (70, .one), (71, .one), (72, .one), (73, .one), (74, .one), (75, .int .u64), (76, .one), (77, .one), (78, .one), (79, .one), (80, .st 2 [(0, 1, false), (1, 1, false)] none), (81, .st 2 [(0, 1, false), (1, 1, false)] none), (82, .one), (83, .one), (84, .one), (85, .one), (86, .one), (87, .one), (88, .one), (89, .one), (90, .one), (91, .int .i64), (92, .one), (93, .one), (94, .one), (95, .one), (96, .one), (98, .one), (99, .one), (100, .one), (101, .one), (102, .int .u32), (103, .one), (104, .one), (105, .one), (106, .one), (107, .one), (108, .one), (109, .one), (110, .one), (111, .one), (112, .one), (113, .one), (114, .st 3 [(0, 1, false), (1, 1, false), (2, 1, false)] none), (115, .st 3 [(0, 1, false), (1, 1, false), (2, 1, false)] none), (116, .one), (117, .one), (118, .one), (121, .one), (122, .one), (123, .one), (124, .one), (126, .st 2 [(0, 1, false), (1, 1, false)] (some [0, 0])), (127, .st 2 [(0, 1, false), (1, 1, false)] (some [0, 0])), (129, .one), (130, .one), (131, .one), (132, .st 1 [(0, 1, false)] (some [1])), (133, .st 1 [(0, 1, false)] (some [1])), (134, .one), (135, .one), (138, .st 4 [(0, 1, false), (1, 1, false), (2, 1, false), (3, 1, false)] none), (139, .st 4 [(0, 1, false), (1, 1, false), (2, 1, false), (3, 1, false)] none), (143, .int .u8), (144, .int .u8), (145, .one), (146, .int .i32), (147, .int .i32), (148, .st 11 [(0, 1, false), (1, 1, false), (2, 1, false), (3, 1, false), (4, 1, false), (5, 1, false), (6, 1, false), (7, 1, false), (8, 1, false), (9, 1, false), (10, 1, false)] none), (149, .st 11 [(0, 1, false), (1, 1, false), (2, 1, false), (3, 1, false), (4, 1, false), (5, 1, false), (6, 1, false), (7, 1, false), (8, 1, false), (9, 1, false), (10, 1, false)] none)]
def ZAB : List (Nat × List Value) := [(1, [.nilFunc]), (2, [.int .i64 0]), (3, [.int .i64 0]), (4, [.bool false]), (5, [.int .u8 0]), (6, [.int .u8 0]), (7, [.int .i64 0, .int .i64 0, .bool false, .int .u8 0]), (8, [.int .i64 0, .int .i64 0, .bool false, .int .u8 0]), (9, [.string ⟨#[]⟩]), (10, [.string ⟨#[]⟩]), (11, [.string ⟨#[]⟩]), (12, [.int .u64 0]), (13, [.string ⟨#[]⟩, .int .u64 0]), (14, [.string ⟨#[]⟩, .int .u64 0]), (15, [.pointer none]), (16, [.pointer none]), (17, [.pointer none]), (18, [.pointer none]), (19, [.pointer none]), (20, [.nilIface]), (21, [.int .i32 0]), (22, [.slice none 0 0]), (23, [.int .i64 0, .string ⟨#[]⟩, .int .i64 0]), (24, [.int .i64 0, .string ⟨#[]⟩, .int .i64 0]), (25, [.int .i64 0]), (27, [.nilFunc]), (28, [.nilFunc]), (30, [.nilFunc]), (31, [.nilFunc]), (32, [.nilFunc]), (33, [.nilFunc]), (34, [.nilFunc]), (35, [.nilFunc]), (37, [.nilFunc]), (38, [.int .i64 0, .int .i64 0]), (39, [.int .i64 0, .int .i64 0]), (40, [.slice none 0 0]), (42, [.nilFunc]), (43, [.nilFunc]), (45, [.nilFunc]), (46, [.nilFunc]), (47, [.nilFunc]), (48, [.nilFunc]), (49, [.nilFunc]), (50, [.nilFunc]), (51, [.nilFunc]), (52, [.nilFunc]), (53, [.nilFunc]), (54, [.nilFunc]), (55, [.nilIface]), (56, [.nilIface]), (58, [.nilFunc]), (59, [.int .u64 0]), (60, [.nilFunc]), (61, [.nilFunc]), (62, [.slice none 0 0]), (63, [.nilFunc]), (64, [.nilFunc]), (65, [.nilFunc]), (69, [.nilFunc]), (70, [.nilFunc]), (71, [.pointer none]), (72, [.nilFunc]), (73, [.nilFunc]), (74, [.nilFunc]), (75, [.int .u64 0]), (77, [.nilFunc]), (78, [.nilFunc]), (79, [.pointer none]), (80, [.pointer none, .slice none 0 0]), (81, [.pointer none, .slice none 0 0]), (82, [.nilFunc]), (83, [.nilFunc]), (84, [.nilFunc]), (85, [.nilFunc]), (86, [.nilFunc]), (87, [.nilFunc]), (89, [.nilFunc]), (90, [.nilFunc]), (91, [.int .i64 0]), (93, [.nilFunc]), (94, [.pointer none]), (95, [.nilFunc]), (96, [.nilFunc]), (98, [.nilFunc]), (99, [.nilFunc]), (101, [.nilFunc]), (102, [.int .u32 0]), (104, [.nilFunc]), (106, [.nilFunc]), (107, [.pointer none]), (108, [.nilFunc]), (109, [.nilFunc]), (110, [.nilFunc]), (112, [.nilFunc]), (113, [.nilFunc]), (114, [.string ⟨#[]⟩, .string ⟨#[]⟩, .nilIface]), (115, [.string ⟨#[]⟩, .string ⟨#[]⟩, .nilIface]), (116, [.nilFunc]), (117, [.nilFunc]), (118, [.nilFunc]), (121, [.nilFunc]), (123, [.nilFunc]), (124, [.nilFunc]), (126, [.int .u8 0, .int .u8 0]), (127, [.int .u8 0, .int .u8 0]), (129, [.nilFunc]), (130, [.nilFunc]), (131, [.pointer none]), (132, [.string ⟨#[]⟩]), (133, [.string ⟨#[]⟩]), (134, [.nilFunc]), (135, [.nilFunc]), (138, [.pointer none, .pointer none, .pointer none, .string ⟨#[]⟩]), (139, [.pointer none, .pointer none, .pointer none, .string ⟨#[]⟩]), (143, [.int .u8 0]), (144, [.int .u8 0]), (145, [.nilFunc]), (146, [.int .i32 0]), (147, [.int .i32 0]), (148, [.int .u64 0, .int .u64 0, .int .u32 0, .int .u8 0, .int .u8 0, .int .u8 0, .int .u8 0, .nilFunc, .pointer none, .int .i32 0, .int .i32 0]), (149, [.int .u64 0, .int .u64 0, .int .u32 0, .int .u8 0, .int .u8 0, .int .u8 0, .int .u8 0, .nilFunc, .pointer none, .int .i32 0, .int .i32 0])]
def T : Nat → Option TI := lookT TAB
def Z : Nat → Option (List Value) := lookT ZAB
theorem hT : TOk Tryd.prog T Z := by
  refine ⟨fun t i h => ?_, fun t z h => ?_⟩
  · have hall : AllT (TFact Tryd.prog) TAB := by
      unfold TAB
      exact ⟨tf0, tf1, tf2, tf3, tf4, tf5, tf6, tf7, tf8, tf9, tf10, tf11, tf12, tf13, tf14, tf15, tf16, tf17, tf18, tf19, tf20, tf21, tf22, tf23, tf24, tf25, tf26, tf27, tf28, tf29, tf30, tf31, tf32, tf33, tf34, tf35, tf36, tf37, tf38, tf39, tf40, tf41, tf42, tf43, tf44, tf45, tf46, tf47, tf48, tf49, tf50, tf51, tf52, tf53, tf54, tf55, tf56, tf57, tf58, tf59, tf60, tf61, tf62, tf63, tf64, tf65, tf68, tf69, tf70, tf71, tf72, tf73, tf74, tf75, tf76, tf77, tf78, tf79, tf80, tf81, tf82, tf83, tf84, tf85, tf86, tf87, tf88, tf89, tf90, tf91, tf92, tf93, tf94, tf95, tf96, tf98, tf99, tf100, tf101, tf102, tf103, tf104, tf105, tf106, tf107, tf108, tf109, tf110, tf111, tf112, tf113, tf114, tf115, tf116, tf117, tf118, tf121, tf122, tf123, tf124, tf126, tf127, tf129, tf130, tf131, tf132, tf133, tf134, tf135, tf138, tf139, tf143, tf144, tf145, tf146, tf147, tf148, tf149, trivial⟩
    exact hall.at h
  · have hall : AllT (TZer Tryd.prog) ZAB := by
      unfold ZAB
      exact ⟨inferInstance, inferInstance, inferInstance, inferInstance, inferInstance, inferInstance, inferInstance, inferInstance, inferInstance, inferInstance, inferInstance, inferInstance, inferInstance, inferInstance, inferInstance, inferInstance, inferInstance, inferInstance, inferInstance, inferInstance, inferInstance, inferInstance, inferInstance, inferInstance, inferInstance, inferInstance, inferInstance, inferInstance, inferInstance, inferInstance, inferInstance, inferInstance, inferInstance, inferInstance, inferInstance, inferInstance, inferInstance, inferInstance, inferInstance, inferInstance, inferInstance, inferInstance, inferInstance, inferInstance, inferInstance, inferInstance, inferInstance, inferInstance, inferInstance, inferInstance, inferInstance, inferInstance, inferInstance, inferInstance, inferInstance, inferInstance, inferInstance, inferInstance, inferInstance, inferInstance, inferInstance, inferInstance, inferInstance, inferInstance, inferInstance, inferInstance, inferInstance, inferInstance, inferInstance, inferInstance, inferInstance, inferInstance, inferInstance, inferInstance, inferInstance, inferInstance, inferInstance, inferInstance, inferInstance, inferInstance, inferInstance, inferInstance, inferInstance, inferInstance, inferInstance, inferInstance, inferInstance, inferInstance, inferInstance, inferInstance, inferInstance, inferInstance, inferInstance, inferInstance, inferInstance, inferInstance, inferInstance, inferInstance, inferInstance, inferInstance, inferInstance, inferInstance, inferInstance, inferInstance, inferInstance, inferInstance, inferInstance, inferInstance, inferInstance, inferInstance, inferInstance, inferInstance, inferInstance, inferInstance, inferInstance, inferInstance, inferInstance, inferInstance, inferInstance, inferInstance, inferInstance, inferInstance, trivial⟩
    exact hall.at h
theorem hM : Tryd.prog.follows .mixedOrders = true := by kernel_rfl
end Go.Proofs.YtkjgmjocikmplaaDoor
