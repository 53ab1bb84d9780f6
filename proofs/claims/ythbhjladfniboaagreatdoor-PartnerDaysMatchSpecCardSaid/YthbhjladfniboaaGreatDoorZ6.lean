/- The tables of types for the data machine. (Written by wip/dtab.py.). -/
import Derived.Test.YthbhjladfniboaaGreatDoorZ3
import Derived.Test.YthbhjladfniboaaGreatDoorZ5
namespace Go.Proofs.YthbhjladfniboaaGreatDoor
open Go.RowKit
def lookT {α : Type} : List (Nat × α) → Nat → Option α
  | [], _ => none
  | (k, v) :: r, t => match Nat.beq k t with
    | true => some v
    | false => lookT r t
def AllT {α : Type} (R : Nat → α → Prop) : List (Nat × α) → Prop
  | [] => True
  | (k, v) :: l => R k v ∧ AllT R l
theorem AllT.at {α : Type} {R : Nat → α → Prop} : ∀ {l : List (Nat × α)} {t : Nat} {x : α}, AllT R l → lookT l t = some x → R t x
  | [], _, _, _, h => by cases h
  | (k, v) :: r, t, x, ha, h => by
    simp only [lookT] at h
    split at h
    · rename_i hk
      have hk := Nat.eq_of_beq_eq_true hk
      cases h
      subst hk
      exact ha.1
    · exact AllT.at ha.2 h
set_option maxRecDepth 100000
theorem tf0 : TFact Tryz.prog 0 (.one) := (inferInstance : TOne Tryz.prog 0)
theorem tf1 : TFact Tryz.prog 1 (.one) := (inferInstance : TOne Tryz.prog 1)
theorem tf2 : TFact Tryz.prog 2 (.int .i64) := ⟨inferInstance, inferInstance⟩
theorem tf3 : TFact Tryz.prog 3 (.int .i64) := ⟨inferInstance, inferInstance⟩
theorem tf4 : TFact Tryz.prog 4 (.bool) := ⟨inferInstance, inferInstance⟩
theorem tf5 : TFact Tryz.prog 5 (.int .u8) := ⟨inferInstance, inferInstance⟩
theorem tf6 : TFact Tryz.prog 6 (.int .u8) := ⟨inferInstance, inferInstance⟩
theorem tf7 : TFact Tryz.prog 7 (.st 4 [(0, 1, false), (1, 1, false), (2, 1, false), (3, 1, false)] (some [0, 0, 2, 0])) := ⟨inferInstance, fun i off n ag h => by
    match i, h with
    | 0, h => cases h; infer_instance
    | 1, h => cases h; infer_instance
    | 2, h => cases h; infer_instance
    | 3, h => cases h; infer_instance
    | j + 4, h => simp at h, inferInstance, fun k h => by
    cases h; infer_instance⟩
theorem tf8 : TFact Tryz.prog 8 (.st 4 [(0, 1, false), (1, 1, false), (2, 1, false), (3, 1, false)] (some [0, 0, 2, 0])) := ⟨inferInstance, fun i off n ag h => by
    match i, h with
    | 0, h => cases h; infer_instance
    | 1, h => cases h; infer_instance
    | 2, h => cases h; infer_instance
    | 3, h => cases h; infer_instance
    | j + 4, h => simp at h, inferInstance, fun k h => by
    cases h; infer_instance⟩
theorem tf9 : TFact Tryz.prog 9 (.str) := ⟨inferInstance, inferInstance⟩
theorem tf10 : TFact Tryz.prog 10 (.str) := ⟨inferInstance, inferInstance⟩
theorem tf11 : TFact Tryz.prog 11 (.str) := ⟨inferInstance, inferInstance⟩
theorem tf12 : TFact Tryz.prog 12 (.int .u64) := ⟨inferInstance, inferInstance⟩
theorem tf13 : TFact Tryz.prog 13 (.st 2 [(0, 1, false), (1, 1, false)] none) := ⟨inferInstance, fun i off n ag h => by
    match i, h with
    | 0, h => cases h; infer_instance
    | 1, h => cases h; infer_instance
    | j + 2, h => simp at h, inferInstance, fun k h => by
    cases h⟩
theorem tf14 : TFact Tryz.prog 14 (.st 2 [(0, 1, false), (1, 1, false)] none) := ⟨inferInstance, fun i off n ag h => by
    match i, h with
    | 0, h => cases h; infer_instance
    | 1, h => cases h; infer_instance
    | j + 2, h => simp at h, inferInstance, fun k h => by
    cases h⟩
theorem tf15 : TFact Tryz.prog 15 (.one) := (inferInstance : TOne Tryz.prog 15)
theorem tf16 : TFact Tryz.prog 16 (.one) := (inferInstance : TOne Tryz.prog 16)
theorem tf17 : TFact Tryz.prog 17 (.one) := (inferInstance : TOne Tryz.prog 17)
theorem tf18 : TFact Tryz.prog 18 (.st 1 [(0, 1, false)] none) := ⟨inferInstance, fun i off n ag h => by
    match i, h with
    | 0, h => cases h; infer_instance
    | j + 1, h => simp at h, inferInstance, fun k h => by
    cases h⟩
theorem tf19 : TFact Tryz.prog 19 (.st 1 [(0, 1, false)] none) := ⟨inferInstance, fun i off n ag h => by
    match i, h with
    | 0, h => cases h; infer_instance
    | j + 1, h => simp at h, inferInstance, fun k h => by
    cases h⟩
theorem tf20 : TFact Tryz.prog 20 (.one) := (inferInstance : TOne Tryz.prog 20)
theorem tf21 : TFact Tryz.prog 21 (.int .i32) := ⟨inferInstance, inferInstance⟩
theorem tf22 : TFact Tryz.prog 22 (.sl 111 2 40 [.string ⟨#[]⟩, .slice none 0 0]) := ⟨inferInstance, inferInstance, inferInstance, inferInstance, inferInstance⟩
theorem tf23 : TFact Tryz.prog 23 (.sl 52 9 104 [.string ⟨#[]⟩, .string ⟨#[]⟩, .string ⟨#[]⟩, .string ⟨#[]⟩, .int .i64 0, .int .i64 0, .bool false, .int .i64 0, .bool false]) := ⟨inferInstance, inferInstance, inferInstance, inferInstance, inferInstance⟩
theorem tf24 : TFact Tryz.prog 24 (.st 6 [(0, 1, false), (1, 1, false), (2, 1, false), (3, 1, false), (4, 1, false), (5, 1, false)] (some [1, 1, 1, 1, 0, 2])) := ⟨inferInstance, fun i off n ag h => by
    match i, h with
    | 0, h => cases h; infer_instance
    | 1, h => cases h; infer_instance
    | 2, h => cases h; infer_instance
    | 3, h => cases h; infer_instance
    | 4, h => cases h; infer_instance
    | 5, h => cases h; infer_instance
    | j + 6, h => simp at h, inferInstance, fun k h => by
    cases h; infer_instance⟩
theorem tf25 : TFact Tryz.prog 25 (.st 6 [(0, 1, false), (1, 1, false), (2, 1, false), (3, 1, false), (4, 1, false), (5, 1, false)] (some [1, 1, 1, 1, 0, 2])) := ⟨inferInstance, fun i off n ag h => by
    match i, h with
    | 0, h => cases h; infer_instance
    | 1, h => cases h; infer_instance
    | 2, h => cases h; infer_instance
    | 3, h => cases h; infer_instance
    | 4, h => cases h; infer_instance
    | 5, h => cases h; infer_instance
    | j + 6, h => simp at h, inferInstance, fun k h => by
    cases h; infer_instance⟩
theorem tf26 : TFact Tryz.prog 26 (.int .i64) := ⟨inferInstance, inferInstance⟩
theorem tf27 : TFact Tryz.prog 27 (.one) := (inferInstance : TOne Tryz.prog 27)
theorem tf28 : TFact Tryz.prog 28 (.one) := (inferInstance : TOne Tryz.prog 28)
theorem tf29 : TFact Tryz.prog 29 (.sl 3 1 8 [.int .i64 0]) := ⟨inferInstance, inferInstance, inferInstance, inferInstance, inferInstance⟩
theorem tf30 : TFact Tryz.prog 30 (.one) := (inferInstance : TOne Tryz.prog 30)
theorem tf31 : TFact Tryz.prog 31 (.one) := (inferInstance : TOne Tryz.prog 31)
theorem tf32 : TFact Tryz.prog 32 (.one) := (inferInstance : TOne Tryz.prog 32)
theorem tf33 : TFact Tryz.prog 33 (.one) := (inferInstance : TOne Tryz.prog 33)
theorem tf34 : TFact Tryz.prog 34 (.one) := (inferInstance : TOne Tryz.prog 34)
theorem tf35 : TFact Tryz.prog 35 (.sl 5 1 1 [.int .u8 0]) := ⟨inferInstance, inferInstance, inferInstance, inferInstance, inferInstance⟩
theorem tf36 : TFact Tryz.prog 36 (.st 3 [(0, 1, false), (1, 1, false), (2, 1, false)] (some [0, 1, 0])) := ⟨inferInstance, fun i off n ag h => by
    match i, h with
    | 0, h => cases h; infer_instance
    | 1, h => cases h; infer_instance
    | 2, h => cases h; infer_instance
    | j + 3, h => simp at h, inferInstance, fun k h => by
    cases h; infer_instance⟩
theorem tf37 : TFact Tryz.prog 37 (.st 3 [(0, 1, false), (1, 1, false), (2, 1, false)] (some [0, 1, 0])) := ⟨inferInstance, fun i off n ag h => by
    match i, h with
    | 0, h => cases h; infer_instance
    | 1, h => cases h; infer_instance
    | 2, h => cases h; infer_instance
    | j + 3, h => simp at h, inferInstance, fun k h => by
    cases h; infer_instance⟩
theorem tf38 : TFact Tryz.prog 38 (.one) := (inferInstance : TOne Tryz.prog 38)
theorem tf39 : TFact Tryz.prog 39 (.one) := (inferInstance : TOne Tryz.prog 39)
theorem tf40 : TFact Tryz.prog 40 (.one) := (inferInstance : TOne Tryz.prog 40)
theorem tf41 : TFact Tryz.prog 41 (.one) := (inferInstance : TOne Tryz.prog 41)
theorem tf42 : TFact Tryz.prog 42 (.one) := (inferInstance : TOne Tryz.prog 42)
theorem tf43 : TFact Tryz.prog 43 (.one) := (inferInstance : TOne Tryz.prog 43)
theorem tf44 : TFact Tryz.prog 44 (.one) := (inferInstance : TOne Tryz.prog 44)
theorem tf45 : TFact Tryz.prog 45 (.one) := (inferInstance : TOne Tryz.prog 45)
theorem tf46 : TFact Tryz.prog 46 (.one) := (inferInstance : TOne Tryz.prog 46)
theorem tf47 : TFact Tryz.prog 47 (.one) := (inferInstance : TOne Tryz.prog 47)
theorem tf48 : TFact Tryz.prog 48 (.one) := (inferInstance : TOne Tryz.prog 48)
theorem tf49 : TFact Tryz.prog 49 (.one) := (inferInstance : TOne Tryz.prog 49)
theorem tf50 : TFact Tryz.prog 50 (.one) := (inferInstance : TOne Tryz.prog 50)
theorem tf51 : TFact Tryz.prog 51 (.st 9 [(0, 1, false), (1, 1, false), (2, 1, false), (3, 1, false), (4, 1, false), (5, 1, false), (6, 1, false), (7, 1, false), (8, 1, false)] (some [1, 1, 1, 1, 0, 0, 2, 0, 2])) := ⟨inferInstance, fun i off n ag h => by
    match i, h with
    | 0, h => cases h; infer_instance
    | 1, h => cases h; infer_instance
    | 2, h => cases h; infer_instance
    | 3, h => cases h; infer_instance
    | 4, h => cases h; infer_instance
    | 5, h => cases h; infer_instance
    | 6, h => cases h; infer_instance
    | 7, h => cases h; infer_instance
    | 8, h => cases h; infer_instance
    | j + 9, h => simp at h, inferInstance, fun k h => by
    cases h; infer_instance⟩
theorem tf52 : TFact Tryz.prog 52 (.st 9 [(0, 1, false), (1, 1, false), (2, 1, false), (3, 1, false), (4, 1, false), (5, 1, false), (6, 1, false), (7, 1, false), (8, 1, false)] (some [1, 1, 1, 1, 0, 0, 2, 0, 2])) := ⟨inferInstance, fun i off n ag h => by
    match i, h with
    | 0, h => cases h; infer_instance
    | 1, h => cases h; infer_instance
    | 2, h => cases h; infer_instance
    | 3, h => cases h; infer_instance
    | 4, h => cases h; infer_instance
    | 5, h => cases h; infer_instance
    | 6, h => cases h; infer_instance
    | 7, h => cases h; infer_instance
    | 8, h => cases h; infer_instance
    | j + 9, h => simp at h, inferInstance, fun k h => by
    cases h; infer_instance⟩
theorem tf53 : TFact Tryz.prog 53 (.one) := (inferInstance : TOne Tryz.prog 53)
theorem tf54 : TFact Tryz.prog 54 (.one) := (inferInstance : TOne Tryz.prog 54)
theorem tf55 : TFact Tryz.prog 55 (.one) := (inferInstance : TOne Tryz.prog 55)
theorem tf56 : TFact Tryz.prog 56 (.one) := (inferInstance : TOne Tryz.prog 56)
theorem tf57 : TFact Tryz.prog 57 (.st 2 [(0, 1, false), (1, 1, false)] (some [0, 0])) := ⟨inferInstance, fun i off n ag h => by
    match i, h with
    | 0, h => cases h; infer_instance
    | 1, h => cases h; infer_instance
    | j + 2, h => simp at h, inferInstance, fun k h => by
    cases h; infer_instance⟩
theorem tf58 : TFact Tryz.prog 58 (.st 2 [(0, 1, false), (1, 1, false)] (some [0, 0])) := ⟨inferInstance, fun i off n ag h => by
    match i, h with
    | 0, h => cases h; infer_instance
    | 1, h => cases h; infer_instance
    | j + 2, h => simp at h, inferInstance, fun k h => by
    cases h; infer_instance⟩
theorem tf59 : TFact Tryz.prog 59 (.int .u64) := ⟨inferInstance, inferInstance⟩
theorem tf60 : TFact Tryz.prog 60 (.one) := (inferInstance : TOne Tryz.prog 60)
theorem tf61 : TFact Tryz.prog 61 (.one) := (inferInstance : TOne Tryz.prog 61)
theorem tf62 : TFact Tryz.prog 62 (.one) := (inferInstance : TOne Tryz.prog 62)
theorem tf63 : TFact Tryz.prog 63 (.one) := (inferInstance : TOne Tryz.prog 63)
theorem tf64 : TFact Tryz.prog 64 (.one) := (inferInstance : TOne Tryz.prog 64)
theorem tf65 : TFact Tryz.prog 65 (.one) := (inferInstance : TOne Tryz.prog 65)
theorem tf66 : TFact Tryz.prog 66 (.one) := (inferInstance : TOne Tryz.prog 66)
theorem tf67 : TFact Tryz.prog 67 (.one) := (inferInstance : TOne Tryz.prog 67)
theorem tf68 : TFact Tryz.prog 68 (.one) := (inferInstance : TOne Tryz.prog 68)
theorem tf69 : TFact Tryz.prog 69 (.one) := (inferInstance : TOne Tryz.prog 69)
theorem tf70 : TFact Tryz.prog 70 (.sl 9 1 16 [.string ⟨#[]⟩]) := ⟨inferInstance, inferInstance, inferInstance, inferInstance, inferInstance⟩
theorem tf71 : TFact Tryz.prog 71 (.one) := (inferInstance : TOne Tryz.prog 71)
theorem tf72 : TFact Tryz.prog 72 (.one) := (inferInstance : TOne Tryz.prog 72)
theorem tf73 : TFact Tryz.prog 73 (.one) := (inferInstance : TOne Tryz.prog 73)
theorem tf74 : TFact Tryz.prog 74 (.one) := (inferInstance : TOne Tryz.prog 74)
theorem tf75 : TFact Tryz.prog 75 (.one) := (inferInstance : TOne Tryz.prog 75)
theorem tf76 : TFact Tryz.prog 76 (.one) := (inferInstance : TOne Tryz.prog 76)
theorem tf77 : TFact Tryz.prog 77 (.one) := (inferInstance : TOne Tryz.prog 77)
theorem tf78 : TFact Tryz.prog 78 (.one) := (inferInstance : TOne Tryz.prog 78)
theorem tf79 : TFact Tryz.prog 79 (.one) := (inferInstance : TOne Tryz.prog 79)
theorem tf80 : TFact Tryz.prog 80 (.one) := (inferInstance : TOne Tryz.prog 80)
theorem tf81 : TFact Tryz.prog 81 (.one) := (inferInstance : TOne Tryz.prog 81)
theorem tf82 : TFact Tryz.prog 82 (.one) := (inferInstance : TOne Tryz.prog 82)
theorem tf83 : TFact Tryz.prog 83 (.one) := (inferInstance : TOne Tryz.prog 83)
theorem tf84 : TFact Tryz.prog 84 (.one) := (inferInstance : TOne Tryz.prog 84)
theorem tf85 : TFact Tryz.prog 85 (.one) := (inferInstance : TOne Tryz.prog 85)
theorem tf86 : TFact Tryz.prog 86 (.one) := (inferInstance : TOne Tryz.prog 86)
theorem tf87 : TFact Tryz.prog 87 (.one) := (inferInstance : TOne Tryz.prog 87)
theorem tf88 : TFact Tryz.prog 88 (.one) := (inferInstance : TOne Tryz.prog 88)
theorem tf89 : TFact Tryz.prog 89 (.one) := (inferInstance : TOne Tryz.prog 89)
theorem tf90 : TFact Tryz.prog 90 (.one) := (inferInstance : TOne Tryz.prog 90)
theorem tf91 : TFact Tryz.prog 91 (.int .u64) := ⟨inferInstance, inferInstance⟩
theorem tf92 : TFact Tryz.prog 92 (.one) := (inferInstance : TOne Tryz.prog 92)
theorem tf93 : TFact Tryz.prog 93 (.one) := (inferInstance : TOne Tryz.prog 93)
theorem tf94 : TFact Tryz.prog 94 (.one) := (inferInstance : TOne Tryz.prog 94)
theorem tf95 : TFact Tryz.prog 95 (.one) := (inferInstance : TOne Tryz.prog 95)
theorem tf96 : TFact Tryz.prog 96 (.st 2 [(0, 1, false), (1, 1, false)] none) := ⟨inferInstance, fun i off n ag h => by
    match i, h with
    | 0, h => cases h; infer_instance
    | 1, h => cases h; infer_instance
    | j + 2, h => simp at h, inferInstance, fun k h => by
    cases h⟩
theorem tf97 : TFact Tryz.prog 97 (.st 2 [(0, 1, false), (1, 1, false)] none) := ⟨inferInstance, fun i off n ag h => by
    match i, h with
    | 0, h => cases h; infer_instance
    | 1, h => cases h; infer_instance
    | j + 2, h => simp at h, inferInstance, fun k h => by
    cases h⟩
theorem tf98 : TFact Tryz.prog 98 (.one) := (inferInstance : TOne Tryz.prog 98)
theorem tf99 : TFact Tryz.prog 99 (.one) := (inferInstance : TOne Tryz.prog 99)
theorem tf100 : TFact Tryz.prog 100 (.one) := (inferInstance : TOne Tryz.prog 100)
theorem tf101 : TFact Tryz.prog 101 (.one) := (inferInstance : TOne Tryz.prog 101)
theorem tf102 : TFact Tryz.prog 102 (.one) := (inferInstance : TOne Tryz.prog 102)
theorem tf103 : TFact Tryz.prog 103 (.one) := (inferInstance : TOne Tryz.prog 103)
theorem tf104 : TFact Tryz.prog 104 (.one) := (inferInstance : TOne Tryz.prog 104)
theorem tf105 : TFact Tryz.prog 105 (.one) := (inferInstance : TOne Tryz.prog 105)
theorem tf106 : TFact Tryz.prog 106 (.one) := (inferInstance : TOne Tryz.prog 106)
theorem tf107 : TFact Tryz.prog 107 (.one) := (inferInstance : TOne Tryz.prog 107)
theorem tf108 : TFact Tryz.prog 108 (.one) := (inferInstance : TOne Tryz.prog 108)
theorem tf109 : TFact Tryz.prog 109 (.sl 120 2 32 [.string ⟨#[]⟩, .string ⟨#[]⟩]) := ⟨inferInstance, inferInstance, inferInstance, inferInstance, inferInstance⟩
theorem tf110 : TFact Tryz.prog 110 (.st 2 [(0, 1, false), (1, 1, false)] none) := ⟨inferInstance, fun i off n ag h => by
    match i, h with
    | 0, h => cases h; infer_instance
    | 1, h => cases h; infer_instance
    | j + 2, h => simp at h, inferInstance, fun k h => by
    cases h⟩
theorem tf111 : TFact Tryz.prog 111 (.st 2 [(0, 1, false), (1, 1, false)] none) := ⟨inferInstance, fun i off n ag h => by
    match i, h with
    | 0, h => cases h; infer_instance
    | 1, h => cases h; infer_instance
    | j + 2, h => simp at h, inferInstance, fun k h => by
    cases h⟩
theorem tf112 : TFact Tryz.prog 112 (.one) := (inferInstance : TOne Tryz.prog 112)
theorem tf113 : TFact Tryz.prog 113 (.one) := (inferInstance : TOne Tryz.prog 113)
theorem tf114 : TFact Tryz.prog 114 (.one) := (inferInstance : TOne Tryz.prog 114)
theorem tf115 : TFact Tryz.prog 115 (.one) := (inferInstance : TOne Tryz.prog 115)
theorem tf116 : TFact Tryz.prog 116 (.one) := (inferInstance : TOne Tryz.prog 116)
theorem tf117 : TFact Tryz.prog 117 (.one) := (inferInstance : TOne Tryz.prog 117)
theorem tf118 : TFact Tryz.prog 118 (.mp 120 4 (.st [1, 1]) (.bool false)) := ⟨inferInstance, inferInstance, inferInstance⟩
theorem tf119 : TFact Tryz.prog 119 (.st 2 [(0, 1, false), (1, 1, false)] (some [1, 1])) := ⟨inferInstance, fun i off n ag h => by
    match i, h with
    | 0, h => cases h; infer_instance
    | 1, h => cases h; infer_instance
    | j + 2, h => simp at h, inferInstance, fun k h => by
    cases h; infer_instance⟩
theorem tf120 : TFact Tryz.prog 120 (.st 2 [(0, 1, false), (1, 1, false)] (some [1, 1])) := ⟨inferInstance, fun i off n ag h => by
    match i, h with
    | 0, h => cases h; infer_instance
    | 1, h => cases h; infer_instance
    | j + 2, h => simp at h, inferInstance, fun k h => by
    cases h; infer_instance⟩
theorem tf121 : TFact Tryz.prog 121 (.one) := (inferInstance : TOne Tryz.prog 121)
theorem tf122 : TFact Tryz.prog 122 (.one) := (inferInstance : TOne Tryz.prog 122)
theorem tf123 : TFact Tryz.prog 123 (.one) := (inferInstance : TOne Tryz.prog 123)
theorem tf124 : TFact Tryz.prog 124 (.one) := (inferInstance : TOne Tryz.prog 124)
theorem tf126 : TFact Tryz.prog 126 (.one) := (inferInstance : TOne Tryz.prog 126)
theorem tf127 : TFact Tryz.prog 127 (.one) := (inferInstance : TOne Tryz.prog 127)
theorem tf128 : TFact Tryz.prog 128 (.one) := (inferInstance : TOne Tryz.prog 128)
theorem tf129 : TFact Tryz.prog 129 (.one) := (inferInstance : TOne Tryz.prog 129)
theorem tf130 : TFact Tryz.prog 130 (.int .u32) := ⟨inferInstance, inferInstance⟩
theorem tf131 : TFact Tryz.prog 131 (.one) := (inferInstance : TOne Tryz.prog 131)
theorem tf132 : TFact Tryz.prog 132 (.one) := (inferInstance : TOne Tryz.prog 132)
theorem tf133 : TFact Tryz.prog 133 (.one) := (inferInstance : TOne Tryz.prog 133)
theorem tf134 : TFact Tryz.prog 134 (.one) := (inferInstance : TOne Tryz.prog 134)
theorem tf135 : TFact Tryz.prog 135 (.one) := (inferInstance : TOne Tryz.prog 135)
theorem tf136 : TFact Tryz.prog 136 (.sl 35 1 24 [.slice none 0 0]) := ⟨inferInstance, inferInstance, inferInstance, inferInstance, inferInstance⟩
theorem tf137 : TFact Tryz.prog 137 (.one) := (inferInstance : TOne Tryz.prog 137)
theorem tf138 : TFact Tryz.prog 138 (.one) := (inferInstance : TOne Tryz.prog 138)
theorem tf139 : TFact Tryz.prog 139 (.one) := (inferInstance : TOne Tryz.prog 139)
theorem tf142 : TFact Tryz.prog 142 (.one) := (inferInstance : TOne Tryz.prog 142)
theorem tf143 : TFact Tryz.prog 143 (.one) := (inferInstance : TOne Tryz.prog 143)
theorem tf144 : TFact Tryz.prog 144 (.one) := (inferInstance : TOne Tryz.prog 144)
theorem tf145 : TFact Tryz.prog 145 (.one) := (inferInstance : TOne Tryz.prog 145)
theorem tf146 : TFact Tryz.prog 146 (.one) := (inferInstance : TOne Tryz.prog 146)
theorem tf147 : TFact Tryz.prog 147 (.one) := (inferInstance : TOne Tryz.prog 147)
theorem tf148 : TFact Tryz.prog 148 (.one) := (inferInstance : TOne Tryz.prog 148)
theorem tf149 : TFact Tryz.prog 149 (.one) := (inferInstance : TOne Tryz.prog 149)
theorem tf150 : TFact Tryz.prog 150 (.int .i64) := ⟨inferInstance, inferInstance⟩
theorem tf151 : TFact Tryz.prog 151 (.one) := (inferInstance : TOne Tryz.prog 151)
theorem tf152 : TFact Tryz.prog 152 (.one) := (inferInstance : TOne Tryz.prog 152)
theorem tf153 : TFact Tryz.prog 153 (.one) := (inferInstance : TOne Tryz.prog 153)
theorem tf154 : TFact Tryz.prog 154 (.one) := (inferInstance : TOne Tryz.prog 154)
theorem tf155 : TFact Tryz.prog 155 (.one) := (inferInstance : TOne Tryz.prog 155)
theorem tf156 : TFact Tryz.prog 156 (.one) := (inferInstance : TOne Tryz.prog 156)
theorem tf157 : TFact Tryz.prog 157 (.one) := (inferInstance : TOne Tryz.prog 157)
theorem tf158 : TFact Tryz.prog 158 (.one) := (inferInstance : TOne Tryz.prog 158)
theorem tf159 : TFact Tryz.prog 159 (.one) := (inferInstance : TOne Tryz.prog 159)
theorem tf162 : TFact Tryz.prog 162 (.one) := (inferInstance : TOne Tryz.prog 162)
theorem tf163 : TFact Tryz.prog 163 (.one) := (inferInstance : TOne Tryz.prog 163)
theorem tf164 : TFact Tryz.prog 164 (.one) := (inferInstance : TOne Tryz.prog 164)
theorem tf165 : TFact Tryz.prog 165 (.one) := (inferInstance : TOne Tryz.prog 165)
theorem tf166 : TFact Tryz.prog 166 (.one) := (inferInstance : TOne Tryz.prog 166)
theorem tf167 : TFact Tryz.prog 167 (.one) := (inferInstance : TOne Tryz.prog 167)
theorem tf168 : TFact Tryz.prog 168 (.one) := (inferInstance : TOne Tryz.prog 168)
theorem tf169 : TFact Tryz.prog 169 (.int .i64) := ⟨inferInstance, inferInstance⟩
theorem tf170 : TFact Tryz.prog 170 (.one) := (inferInstance : TOne Tryz.prog 170)
theorem tf171 : TFact Tryz.prog 171 (.one) := (inferInstance : TOne Tryz.prog 171)
theorem tf172 : TFact Tryz.prog 172 (.one) := (inferInstance : TOne Tryz.prog 172)
theorem tf173 : TFact Tryz.prog 173 (.one) := (inferInstance : TOne Tryz.prog 173)
theorem tf174 : TFact Tryz.prog 174 (.one) := (inferInstance : TOne Tryz.prog 174)
theorem tf175 : TFact Tryz.prog 175 (.one) := (inferInstance : TOne Tryz.prog 175)
theorem tf176 : TFact Tryz.prog 176 (.one) := (inferInstance : TOne Tryz.prog 176)
theorem tf177 : TFact Tryz.prog 177 (.int .u64) := ⟨inferInstance, inferInstance⟩
theorem tf178 : TFact Tryz.prog 178 (.one) := (inferInstance : TOne Tryz.prog 178)
theorem tf179 : TFact Tryz.prog 179 (.one) := (inferInstance : TOne Tryz.prog 179)
theorem tf180 : TFact Tryz.prog 180 (.one) := (inferInstance : TOne Tryz.prog 180)
theorem tf181 : TFact Tryz.prog 181 (.one) := (inferInstance : TOne Tryz.prog 181)
theorem tf182 : TFact Tryz.prog 182 (.one) := (inferInstance : TOne Tryz.prog 182)
theorem tf183 : TFact Tryz.prog 183 (.one) := (inferInstance : TOne Tryz.prog 183)
theorem tf184 : TFact Tryz.prog 184 (.one) := (inferInstance : TOne Tryz.prog 184)
theorem tf185 : TFact Tryz.prog 185 (.one) := (inferInstance : TOne Tryz.prog 185)
theorem tf186 : TFact Tryz.prog 186 (.one) := (inferInstance : TOne Tryz.prog 186)
theorem tf187 : TFact Tryz.prog 187 (.st 3 [(0, 1, false), (1, 1, false), (2, 1, false)] none) := ⟨inferInstance, fun i off n ag h => by
    match i, h with
    | 0, h => cases h; infer_instance
    | 1, h => cases h; infer_instance
    | 2, h => cases h; infer_instance
    | j + 3, h => simp at h, inferInstance, fun k h => by
    cases h⟩
theorem tf188 : TFact Tryz.prog 188 (.st 3 [(0, 1, false), (1, 1, false), (2, 1, false)] none) := ⟨inferInstance, fun i off n ag h => by
    match i, h with
    | 0, h => cases h; infer_instance
    | 1, h => cases h; infer_instance
    | 2, h => cases h; infer_instance
    | j + 3, h => simp at h, inferInstance, fun k h => by
    cases h⟩
theorem tf189 : TFact Tryz.prog 189 (.one) := (inferInstance : TOne Tryz.prog 189)
theorem tf190 : TFact Tryz.prog 190 (.one) := (inferInstance : TOne Tryz.prog 190)
theorem tf191 : TFact Tryz.prog 191 (.one) := (inferInstance : TOne Tryz.prog 191)
theorem tf192 : TFact Tryz.prog 192 (.one) := (inferInstance : TOne Tryz.prog 192)
theorem tf196 : TFact Tryz.prog 196 (.st 2 [(0, 1, false), (1, 1, false)] (some [0, 0])) := ⟨inferInstance, fun i off n ag h => by
    match i, h with
    | 0, h => cases h; infer_instance
    | 1, h => cases h; infer_instance
    | j + 2, h => simp at h, inferInstance, fun k h => by
    cases h; infer_instance⟩
theorem tf197 : TFact Tryz.prog 197 (.st 2 [(0, 1, false), (1, 1, false)] (some [0, 0])) := ⟨inferInstance, fun i off n ag h => by
    match i, h with
    | 0, h => cases h; infer_instance
    | 1, h => cases h; infer_instance
    | j + 2, h => simp at h, inferInstance, fun k h => by
    cases h; infer_instance⟩
theorem tf199 : TFact Tryz.prog 199 (.one) := (inferInstance : TOne Tryz.prog 199)
theorem tf200 : TFact Tryz.prog 200 (.one) := (inferInstance : TOne Tryz.prog 200)
theorem tf201 : TFact Tryz.prog 201 (.one) := (inferInstance : TOne Tryz.prog 201)
theorem tf202 : TFact Tryz.prog 202 (.st 1 [(0, 1, false)] (some [1])) := ⟨inferInstance, fun i off n ag h => by
    match i, h with
    | 0, h => cases h; infer_instance
    | j + 1, h => simp at h, inferInstance, fun k h => by
    cases h; infer_instance⟩
theorem tf203 : TFact Tryz.prog 203 (.st 1 [(0, 1, false)] (some [1])) := ⟨inferInstance, fun i off n ag h => by
    match i, h with
    | 0, h => cases h; infer_instance
    | j + 1, h => simp at h, inferInstance, fun k h => by
    cases h; infer_instance⟩
theorem tf204 : TFact Tryz.prog 204 (.one) := (inferInstance : TOne Tryz.prog 204)
theorem tf205 : TFact Tryz.prog 205 (.st 4 [(0, 1, false), (1, 1, false), (2, 1, false), (3, 1, false)] none) := ⟨inferInstance, fun i off n ag h => by
    match i, h with
    | 0, h => cases h; infer_instance
    | 1, h => cases h; infer_instance
    | 2, h => cases h; infer_instance
    | 3, h => cases h; infer_instance
    | j + 4, h => simp at h, inferInstance, fun k h => by
    cases h⟩
theorem tf206 : TFact Tryz.prog 206 (.st 4 [(0, 1, false), (1, 1, false), (2, 1, false), (3, 1, false)] none) := ⟨inferInstance, fun i off n ag h => by
    match i, h with
    | 0, h => cases h; infer_instance
    | 1, h => cases h; infer_instance
    | 2, h => cases h; infer_instance
    | 3, h => cases h; infer_instance
    | j + 4, h => simp at h, inferInstance, fun k h => by
    cases h⟩
theorem tf210 : TFact Tryz.prog 210 (.int .u8) := ⟨inferInstance, inferInstance⟩
theorem tf211 : TFact Tryz.prog 211 (.int .u8) := ⟨inferInstance, inferInstance⟩
theorem tf212 : TFact Tryz.prog 212 (.one) := (inferInstance : TOne Tryz.prog 212)
theorem tf213 : TFact Tryz.prog 213 (.int .i32) := ⟨inferInstance, inferInstance⟩
theorem tf214 : TFact Tryz.prog 214 (.int .i32) := ⟨inferInstance, inferInstance⟩
theorem tf215 : TFact Tryz.prog 215 (.st 11 [(0, 1, false), (1, 1, false), (2, 1, false), (3, 1, false), (4, 1, false), (5, 1, false), (6, 1, false), (7, 1, false), (8, 1, false), (9, 1, false), (10, 1, false)] none) := ⟨inferInstance, fun i off n ag h => by
    match i, h with
    | 0, h => cases h; infer_instance
    | 1, h => cases h; infer_instance
    | 2, h => cases h; infer_instance
    | 3, h => cases h; infer_instance
    | 4, h => cases h; infer_instance
    | 5, h => cases h; infer_instance
    | 6, h => cases h; infer_instance
    | 7, h => cases h; infer_instance
    | 8, h => cases h; infer_instance
    | 9, h => cases h; infer_instance
    | 10, h => cases h; infer_instance
    | j + 11, h => simp at h, inferInstance, fun k h => by
    cases h⟩
theorem tf216 : TFact Tryz.prog 216 (.st 11 [(0, 1, false), (1, 1, false), (2, 1, false), (3, 1, false), (4, 1, false), (5, 1, false), (6, 1, false), (7, 1, false), (8, 1, false), (9, 1, false), (10, 1, false)] none) := ⟨inferInstance, fun i off n ag h => by
    match i, h with
    | 0, h => cases h; infer_instance
    | 1, h => cases h; infer_instance
    | 2, h => cases h; infer_instance
    | 3, h => cases h; infer_instance
    | 4, h => cases h; infer_instance
    | 5, h => cases h; infer_instance
    | 6, h => cases h; infer_instance
    | 7, h => cases h; infer_instance
    | 8, h => cases h; infer_instance
    | 9, h => cases h; infer_instance
    | 10, h => cases h; infer_instance
    | j + 11, h => simp at h, inferInstance, fun k h => by
    cases h⟩
def TAB : List (Nat × TI) := [(0, .one), (1, .one), (2, .int .i64), (3, .int .i64), (4, .bool), (5, .int .u8), (6, .int .u8), (7, .st 4 [(0, 1, false), (1, 1, false), (2, 1, false), (3, 1, false)] (some [0, 0, 2, 0])), (8, .st 4 [(0, 1, false), (1, 1, false), (2, 1, false), (3, 1, false)] (some [0, 0, 2, 0])), (9, .str), (10, .str), (11, .str), (12, .int .u64), (13, .st 2 [(0, 1, false), (1, 1, false)] none), (14, .st 2 [(0, 1, false), (1, 1, false)] none), (15, .one), (16, .one), (17, .one), (18, .st 1 [(0, 1, false)] none), (19, .st 1 [(0, 1, false)] none), (20, .one), (21, .int .i32), (22, .sl 111 2 40 [.string ⟨#[]⟩, .slice none 0 0]), (23, .sl 52 9 104 [.string ⟨#[]⟩, .string ⟨#[]⟩, .string ⟨#[]⟩, .string ⟨#[]⟩, .int .i64 0, .int .i64 0, .bool false, .int .i64 0, .bool false]), (24, .st 6 [(0, 1, false), (1, 1, false), (2, 1, false), (3, 1, false), (4, 1, false), (5, 1, false)] (some [1, 1, 1, 1, 0, 2])), (25, .st 6 [(0, 1, false), (1, 1, false), (2, 1, false), (3, 1, false), (4, 1, false), (5, 1, false)] (some [1, 1, 1, 1, 0, 2])), (26, .int .i64), (27, .one), (28, .one), (29, .sl 3 1 8 [.int .i64 0]), (30, .one), (31, .one), (32, .one), (33, .one), (34, .one), (35, .sl 5 1 1 [.int .u8 0]), (36, .st 3 [(0, 1, false), (1, 1, false), (2, 1, false)] (some [0, 1, 0])), (37, .st 3 [(0, 1, false), (1, 1, false), (2, 1, false)] (some [0, 1, 0])), (38, .one), (39, .one), (40, .one), (41, .one), (42, .one), (43, .one), (44, .one), (45, .one), (46, .one), (47, .one), (48, .one), (49, .one), (50, .one), (51, .st 9 [(0, 1, false), (1, 1, false), (2, 1, false), (3, 1, false), (4, 1, false), (5, 1, false), (6, 1, false), (7, 1, false), (8, 1, false)] (some [1, 1, 1, 1, 0, 0, 2, 0, 2])), (52, .st 9 [(0, 1, false), (1, 1, false), (2, 1, false), (3, 1, false), (4, 1, false), (5, 1, false), (6, 1, false), (7, 1, false), (8, 1, false)] (some [1, 1, 1, 1, 0, 0, 2, 0, 2])), (53, .one), (54, .one), (55, .one), (56, .one), (57, .st 2 [(0, 1, false), (1, 1, false)] (some [0, 0])), (58, .st 2 [(0, 1, false), (1, 1, false)] (some [0, 0])), (59, .int .u64), (60, .one), (61, .one), (62, .one), (63, .one), (64, .one), (65, .one), (66, .one), (67, .one), (68, .one), (69, .one), (70, .sl 9 1 16 [.string ⟨#[]⟩]), (71, .one), (72, .one), (73, .one), (74, .one), (75, .one), (76, .one), (77, .one), (78, .one), (79, .one), (80, .one), (81, .one), (82, .one), (83, .one), (84, .one), (85, .one), (86, .one), (87, .one), (88, .one), (89, .one), (90, .one), (91, .int .u64), (92, .one), (93, .one), (94, .one), (95, .one), (96, .st 2 [(0, 1, false), (1, 1, false)] none), (97, .st 2 [(0, 1, false), (1, 1, false)] none), (98, .one), (99, .one), (100, .one), (101, .one), (102, .one), (103, .one), (104, .one), (105, .one), (106, .one), (107, .one), (108, .one), (109, .sl 120 2 32 [.string ⟨#[]⟩, .string ⟨#[]⟩]), (110, .st 2 [(0, 1, false), (1, 1, false)] none), (111, .st 2 [(0, 1, false), (1, 1, false)] none), (112, .one), (113, .one), (114, .one), (115, .one), (116, .one), (117, .one), (118, .mp 120 4 (.st [1, 1]) (.bool false)), (119, .st 2 [(0, 1, false), (1, 1, false)] (some [1, 1])), (120, .st 2 [(0, 1, false), (1, 1, false)] (some [1, 1])), (121, .one), (122, .one), (123, .one), (124, .one), (126, .one), (127, .one), (128, .one), (129, .one), (130, .int .u32), (131, .one), (132, .one), (133, .one), (134, .one), (135, .one), (136, .sl 35 1 24 [.slice none 0 0]), (137, .one), (138, .one), (139, .one), (142, .one), (143, .one), (144, .one), (145, .one), (146, .one), (147, .one), (148, .one), (149, .one), (150, .int .i64), (151, .one), (152, .one), (153, .one), (154, .one), (155, .one), (156, .one), (157, .one), (158, .one), (159, .one), (162, .one), (163, .one), (164, .one), (165, .one), (166, .one), (167, .one), (168, .one), (169, .int .i64), (170, .one), (171, .one), (172, .one), (173, .one), (174, .one), (175, .one), (176, .one), (177, .int .u64), (178, .one), (179, .one), (180, .one), (181, .one), (182, .one), (183, .one), (184, .one), (185, .one), (186, .one), (187, .st 3 [(0, 1, false), (1, 1, false), (2, 1, false)] none), (188, .st 3 [(0, 1, false), (1, 1, false), (2, 1, false)] none), (189, .one), (190, .one), (191, .one), (192, .one), (196, .st 2 [(0, 1, false), (1, 1, false)] (some [0, 0])), (197, .st 2 [(0, 1, false), (1, 1, false)] (some [0, 0])), (199, .one), (200, .one), (201, .one), (202, .st 1 [(0, 1, false)] (some [1])), (203, .st 1 [(0, 1, false)] (some [1])), (204, .one), (205, .st 4 [(0, 1, false), (1, 1, false), (2, 1, false), (3, 1, false)] none), (206, .st 4 [(0, 1, false), (1, 1, false), (2, 1, false), (3, 1, false)] none), (210, .int .u8), (211, .int .u8), (212, .one), (213, .int .i32), (214, .int .i32), (215, .st 11 [(0, 1, false), (1, 1, false), (2, 1, false), (3, 1, false), (4, 1, false), (5, 1, false), (6, 1, false), (7, 1, false), (8, 1, false), (9, 1, false), (10, 1, false)] none), (216, .st 11 [(0, 1, false), (1, 1, false), (2, 1, false), (3, 1, false), (4, 1, false), (5, 1, false), (6, 1, false), (7, 1, false), (8, 1, false), (9, 1, false), (10, 1, false)] none)]
def ZAB : List (Nat × List Value) := [(1, [.nilFunc]), (2, [.int .i64 0]), (3, [.int .i64 0]), (4, [.bool false]), (5, [.int .u8 0]), (6, [.int .u8 0]), (7, [.int .i64 0, .int .i64 0, .bool false, .int .u8 0]), (8, [.int .i64 0, .int .i64 0, .bool false, .int .u8 0]), (9, [.string ⟨#[]⟩]), (10, [.string ⟨#[]⟩]), (11, [.string ⟨#[]⟩]), (12, [.int .u64 0]), (13, [.string ⟨#[]⟩, .int .u64 0]), (14, [.string ⟨#[]⟩, .int .u64 0]), (15, [.pointer none]), (16, [.pointer none]), (17, [.pointer none]), (18, [.pointer none]), (19, [.pointer none]), (20, [.nilIface]), (21, [.int .i32 0]), (22, [.slice none 0 0]), (23, [.slice none 0 0]), (24, [.string ⟨#[]⟩, .string ⟨#[]⟩, .string ⟨#[]⟩, .string ⟨#[]⟩, .int .i64 0, .bool false]), (25, [.string ⟨#[]⟩, .string ⟨#[]⟩, .string ⟨#[]⟩, .string ⟨#[]⟩, .int .i64 0, .bool false]), (26, [.int .i64 0]), (28, [.nilFunc]), (29, [.slice none 0 0]), (31, [.nilFunc]), (32, [.nilFunc]), (33, [.nilFunc]), (34, [.nilFunc]), (35, [.slice none 0 0]), (36, [.int .i64 0, .string ⟨#[]⟩, .int .i64 0]), (37, [.int .i64 0, .string ⟨#[]⟩, .int .i64 0]), (38, [.nilFunc]), (40, [.nilFunc]), (41, [.nilFunc]), (43, [.nilFunc]), (44, [.nilFunc]), (45, [.nilFunc]), (46, [.nilFunc]), (47, [.nilFunc]), (48, [.nilFunc]), (49, [.nilFunc]), (50, [.nilFunc]), (51, [.string ⟨#[]⟩, .string ⟨#[]⟩, .string ⟨#[]⟩, .string ⟨#[]⟩, .int .i64 0, .int .i64 0, .bool false, .int .i64 0, .bool false]), (52, [.string ⟨#[]⟩, .string ⟨#[]⟩, .string ⟨#[]⟩, .string ⟨#[]⟩, .int .i64 0, .int .i64 0, .bool false, .int .i64 0, .bool false]), (53, [.nilFunc]), (54, [.nilFunc]), (55, [.nilFunc]), (56, [.nilFunc]), (57, [.int .i64 0, .int .i64 0]), (58, [.int .i64 0, .int .i64 0]), (59, [.int .u64 0]), (60, [.nilFunc]), (61, [.nilFunc]), (62, [.nilFunc]), (63, [.nilFunc]), (64, [.nilFunc]), (65, [.nilFunc]), (66, [.nilFunc]), (67, [.nilFunc]), (68, [.nilFunc]), (69, [.nilFunc]), (70, [.slice none 0 0]), (72, [.nilFunc]), (74, [.nilFunc]), (75, [.nilFunc]), (76, [.nilFunc]), (77, [.nilFunc]), (78, [.nilFunc]), (79, [.nilFunc]), (80, [.nilFunc]), (81, [.nilFunc]), (82, [.nilFunc]), (83, [.nilFunc]), (84, [.nilFunc]), (85, [.nilFunc]), (86, [.nilFunc]), (87, [.nilFunc]), (88, [.nilFunc]), (89, [.nilFunc]), (90, [.nilFunc]), (91, [.int .u64 0]), (93, [.nilFunc]), (94, [.nilFunc]), (95, [.pointer none]), (96, [.pointer none, .slice none 0 0]), (97, [.pointer none, .slice none 0 0]), (98, [.nilFunc]), (99, [.nilIface]), (100, [.nilIface]), (102, [.nilFunc]), (103, [.nilFunc]), (104, [.nilFunc]), (105, [.nilFunc]), (106, [.nilFunc]), (107, [.nilFunc]), (108, [.nilFunc]), (109, [.slice none 0 0]), (110, [.string ⟨#[]⟩, .slice none 0 0]), (111, [.string ⟨#[]⟩, .slice none 0 0]), (112, [.nilFunc]), (113, [.nilFunc]), (114, [.nilFunc]), (115, [.nilFunc]), (116, [.nilFunc]), (117, [.nilFunc]), (118, [.map none]), (119, [.string ⟨#[]⟩, .string ⟨#[]⟩]), (120, [.string ⟨#[]⟩, .string ⟨#[]⟩]), (121, [.nilFunc]), (122, [.nilFunc]), (123, [.nilFunc]), (124, [.nilFunc]), (126, [.nilFunc]), (127, [.nilFunc]), (129, [.nilFunc]), (130, [.int .u32 0]), (132, [.nilFunc]), (134, [.nilFunc]), (135, [.pointer none]), (136, [.slice none 0 0]), (137, [.nilFunc]), (138, [.nilFunc]), (139, [.nilFunc]), (143, [.nilFunc]), (144, [.nilFunc]), (145, [.pointer none]), (146, [.nilFunc]), (147, [.nilFunc]), (148, [.nilFunc]), (149, [.nilFunc]), (150, [.int .i64 0]), (152, [.nilFunc]), (153, [.nilFunc]), (154, [.nilFunc]), (155, [.nilFunc]), (156, [.nilFunc]), (157, [.nilFunc]), (158, [.nilFunc]), (159, [.nilFunc]), (163, [.nilFunc]), (164, [.nilFunc]), (165, [.nilFunc]), (167, [.nilFunc]), (168, [.nilFunc]), (169, [.int .i64 0]), (171, [.nilFunc]), (172, [.pointer none]), (173, [.nilFunc]), (174, [.nilFunc]), (175, [.nilFunc]), (176, [.nilFunc]), (177, [.int .u64 0]), (178, [.nilFunc]), (179, [.nilFunc]), (180, [.nilFunc]), (181, [.pointer none]), (182, [.nilFunc]), (183, [.nilFunc]), (185, [.nilFunc]), (186, [.nilFunc]), (187, [.string ⟨#[]⟩, .string ⟨#[]⟩, .nilIface]), (188, [.string ⟨#[]⟩, .string ⟨#[]⟩, .nilIface]), (189, [.nilFunc]), (190, [.pointer none]), (192, [.nilFunc]), (196, [.int .u8 0, .int .u8 0]), (197, [.int .u8 0, .int .u8 0]), (199, [.nilFunc]), (200, [.nilFunc]), (201, [.pointer none]), (202, [.string ⟨#[]⟩]), (203, [.string ⟨#[]⟩]), (204, [.nilFunc]), (205, [.pointer none, .pointer none, .pointer none, .string ⟨#[]⟩]), (206, [.pointer none, .pointer none, .pointer none, .string ⟨#[]⟩]), (210, [.int .u8 0]), (211, [.int .u8 0]), (212, [.nilFunc]), (213, [.int .i32 0]), (214, [.int .i32 0]), (215, [.int .u64 0, .int .u64 0, .int .u32 0, .int .u8 0, .int .u8 0, .int .u8 0, .int .u8 0, .nilFunc, .pointer none, .int .i32 0, .int .i32 0]), (216, [.int .u64 0, .int .u64 0, .int .u32 0, .int .u8 0, .int .u8 0, .int .u8 0, .int .u8 0, .nilFunc, .pointer none, .int .i32 0, .int .i32 0])]
def T : Nat → Option TI := lookT TAB
def Z : Nat → Option (List Value) := lookT ZAB
theorem hT : TOk Tryz.prog T Z := by
  refine ⟨fun t i h => ?_, fun t z h => ?_⟩
  · have hall : AllT (TFact Tryz.prog) TAB := by
      unfold TAB
      exact ⟨tf0, tf1, tf2, tf3, tf4, tf5, tf6, tf7, tf8, tf9, tf10, tf11, tf12, tf13, tf14, tf15, tf16, tf17, tf18, tf19, tf20, tf21, tf22, tf23, tf24, tf25, tf26, tf27, tf28, tf29, tf30, tf31, tf32, tf33, tf34, tf35, tf36, tf37, tf38, tf39, tf40, tf41, tf42, tf43, tf44, tf45, tf46, tf47, tf48, tf49, tf50, tf51, tf52, tf53, tf54, tf55, tf56, tf57, tf58, tf59, tf60, tf61, tf62, tf63, tf64, tf65, tf66, tf67, tf68, tf69, tf70, tf71, tf72, tf73, tf74, tf75, tf76, tf77, tf78, tf79, tf80, tf81, tf82, tf83, tf84, tf85, tf86, tf87, tf88, tf89, tf90, tf91, tf92, tf93, tf94, tf95, tf96, tf97, tf98, tf99, tf100, tf101, tf102, tf103, tf104, tf105, tf106, tf107, tf108, tf109, tf110, tf111, tf112, tf113, tf114, tf115, tf116, tf117, tf118, tf119, tf120, tf121, tf122, tf123, tf124, tf126, tf127, tf128, tf129, tf130, tf131, tf132, tf133, tf134, tf135, tf136, tf137, tf138, tf139, tf142, tf143, tf144, tf145, tf146, tf147, tf148, tf149, tf150, tf151, tf152, tf153, tf154, tf155, tf156, tf157, tf158, tf159, tf162, tf163, tf164, tf165, tf166, tf167, tf168, tf169, tf170, tf171, tf172, tf173, tf174, tf175, tf176, tf177, tf178, tf179, tf180, tf181, tf182, tf183, tf184, tf185, tf186, tf187, tf188, tf189, tf190, tf191, tf192, tf196, tf197, tf199, tf200, tf201, tf202, tf203, tf204, tf205, tf206, tf210, tf211, tf212, tf213, tf214, tf215, tf216, trivial⟩
    exact hall.at h
  · have hall : AllT (TZer Tryz.prog) ZAB := by
      unfold ZAB
      exact ⟨inferInstance, inferInstance, inferInstance, inferInstance, inferInstance, inferInstance, inferInstance, inferInstance, inferInstance, inferInstance, inferInstance, inferInstance, inferInstance, inferInstance, inferInstance, inferInstance, inferInstance, inferInstance, inferInstance, inferInstance, inferInstance, inferInstance, inferInstance, inferInstance, inferInstance, inferInstance, inferInstance, inferInstance, inferInstance, inferInstance, inferInstance, inferInstance, inferInstance, inferInstance, inferInstance, inferInstance, inferInstance, inferInstance, inferInstance, inferInstance, inferInstance, inferInstance, inferInstance, inferInstance, inferInstance, inferInstance, inferInstance, inferInstance, inferInstance, inferInstance, inferInstance, inferInstance, inferInstance, inferInstance, inferInstance, inferInstance, inferInstance, inferInstance, inferInstance, inferInstance, inferInstance, inferInstance, inferInstance, inferInstance, inferInstance, inferInstance, inferInstance, inferInstance, inferInstance, inferInstance, inferInstance, inferInstance, inferInstance, inferInstance, inferInstance, inferInstance, inferInstance, inferInstance, inferInstance, inferInstance, inferInstance, inferInstance, inferInstance, inferInstance, inferInstance, inferInstance, inferInstance, inferInstance, inferInstance, inferInstance, inferInstance, inferInstance, inferInstance, inferInstance, inferInstance, inferInstance, inferInstance, inferInstance, inferInstance, inferInstance, inferInstance, inferInstance, inferInstance, inferInstance, inferInstance, inferInstance, inferInstance, inferInstance, inferInstance, inferInstance, inferInstance, inferInstance, inferInstance, inferInstance, inferInstance, inferInstance, inferInstance, inferInstance, inferInstance, inferInstance, inferInstance, inferInstance, inferInstance, inferInstance, inferInstance, inferInstance, inferInstance, inferInstance, inferInstance, inferInstance, inferInstance, inferInstance, inferInstance, inferInstance, inferInstance, inferInstance, inferInstance, inferInstance, inferInstance, inferInstance, inferInstance, inferInstance, inferInstance, inferInstance, inferInstance, inferInstance, inferInstance, inferInstance, inferInstance, inferInstance, inferInstance, inferInstance, inferInstance, inferInstance, inferInstance, inferInstance, inferInstance, inferInstance, inferInstance, inferInstance, inferInstance, inferInstance, inferInstance, inferInstance, inferInstance, inferInstance, inferInstance, inferInstance, inferInstance, inferInstance, inferInstance, inferInstance, inferInstance, inferInstance, inferInstance, inferInstance, inferInstance, inferInstance, inferInstance, inferInstance, inferInstance, inferInstance, inferInstance, inferInstance, inferInstance, inferInstance, trivial⟩
    exact hall.at h
theorem hM : Tryz.prog.follows .mixedOrders = true := by kernel_rfl
end Go.Proofs.YthbhjladfniboaaGreatDoor
