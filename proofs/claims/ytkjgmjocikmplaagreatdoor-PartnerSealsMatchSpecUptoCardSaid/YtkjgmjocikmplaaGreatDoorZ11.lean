/- The tables of types for the data machine. (Written by wip/dtab.py.). -/
import Derived.Test.YtkjgmjocikmplaaGreatDoorZ10
import Derived.Test.YtkjgmjocikmplaaGreatDoorZ4
namespace Go.Proofs.YtkjgmjocikmplaaGreatDoor
open Go.RowKit
def lookT {α : Type} : List (Nat × α) → Nat → Option α
  | [], _ => none
  | (k, v) :: r, t => match Nat.beq k t with
    | true => some v
    | false => lookT r t
def AllT {α : Type} (R : Nat → α → Prop) : List (Nat × α) → Prop
  | [] => True
  | (k, v) :: l => R k v ∧ AllT R l
theorem AllT.at {α : Type} {R : Nat → α → Prop} : ∀ {l : List (Nat × α)} {t : Nat} {x : α}, AllT R l → lookT l t = some x → R t x
  | [], _, _, _, h => by cases h
  | (k, v) :: r, t, x, ha, h => by
    simp only [lookT] at h
    split at h
    · rename_i hk
      have hk := Nat.eq_of_beq_eq_true hk
      cases h
      subst hk
      exact ha.1
    · exact AllT.at ha.2 h
set_option maxRecDepth 100000
theorem tf0 : TFact Tryz.prog 0 (.one) := (inferInstance : TOne Tryz.prog 0)
theorem tf1 : TFact Tryz.prog 1 (.one) := (inferInstance : TOne Tryz.prog 1)
theorem tf2 : TFact Tryz.prog 2 (.int .i64) := ⟨inferInstance, inferInstance⟩
theorem tf3 : TFact Tryz.prog 3 (.int .i64) := ⟨inferInstance, inferInstance⟩
theorem tf4 : TFact Tryz.prog 4 (.bool) := ⟨inferInstance, inferInstance⟩
theorem tf5 : TFact Tryz.prog 5 (.int .u8) := ⟨inferInstance, inferInstance⟩
theorem tf6 : TFact Tryz.prog 6 (.int .u8) := ⟨inferInstance, inferInstance⟩
theorem tf7 : TFact Tryz.prog 7 (.st 4 [(0, 1, false), (1, 1, false), (2, 1, false), (3, 1, false)] (some [0, 0, 2, 0])) := ⟨inferInstance, fun i off n ag h => by
    match i, h with
    | 0, h => cases h; infer_instance
    | 1, h => cases h; infer_instance
    | 2, h => cases h; infer_instance
    | 3, h => cases h; infer_instance
    | j + 4, h => simp at h, inferInstance, fun k h => by
    cases h; infer_instance⟩
theorem tf8 : TFact Tryz.prog 8 (.st 4 [(0, 1, false), (1, 1, false), (2, 1, false), (3, 1, false)] (some [0, 0, 2, 0])) := ⟨inferInstance, fun i off n ag h => by
    match i, h with
    | 0, h => cases h; infer_instance
    | 1, h => cases h; infer_instance
    | 2, h => cases h; infer_instance
    | 3, h => cases h; infer_instance
    | j + 4, h => simp at h, inferInstance, fun k h => by
    cases h; infer_instance⟩
theorem tf9 : TFact Tryz.prog 9 (.str) := ⟨inferInstance, inferInstance⟩
theorem tf10 : TFact Tryz.prog 10 (.str) := ⟨inferInstance, inferInstance⟩
theorem tf11 : TFact Tryz.prog 11 (.str) := ⟨inferInstance, inferInstance⟩
theorem tf12 : TFact Tryz.prog 12 (.int .u64) := ⟨inferInstance, inferInstance⟩
theorem tf13 : TFact Tryz.prog 13 (.st 2 [(0, 1, false), (1, 1, false)] none) := ⟨inferInstance, fun i off n ag h => by
    match i, h with
    | 0, h => cases h; infer_instance
    | 1, h => cases h; infer_instance
    | j + 2, h => simp at h, inferInstance, fun k h => by
    cases h⟩
theorem tf14 : TFact Tryz.prog 14 (.st 2 [(0, 1, false), (1, 1, false)] none) := ⟨inferInstance, fun i off n ag h => by
    match i, h with
    | 0, h => cases h; infer_instance
    | 1, h => cases h; infer_instance
    | j + 2, h => simp at h, inferInstance, fun k h => by
    cases h⟩
theorem tf15 : TFact Tryz.prog 15 (.one) := (inferInstance : TOne Tryz.prog 15)
theorem tf16 : TFact Tryz.prog 16 (.one) := (inferInstance : TOne Tryz.prog 16)
theorem tf17 : TFact Tryz.prog 17 (.one) := (inferInstance : TOne Tryz.prog 17)
theorem tf18 : TFact Tryz.prog 18 (.st 1 [(0, 1, false)] none) := ⟨inferInstance, fun i off n ag h => by
    match i, h with
    | 0, h => cases h; infer_instance
    | j + 1, h => simp at h, inferInstance, fun k h => by
    cases h⟩
theorem tf19 : TFact Tryz.prog 19 (.st 1 [(0, 1, false)] none) := ⟨inferInstance, fun i off n ag h => by
    match i, h with
    | 0, h => cases h; infer_instance
    | j + 1, h => simp at h, inferInstance, fun k h => by
    cases h⟩
theorem tf20 : TFact Tryz.prog 20 (.ifc) := ⟨inferInstance, inferInstance⟩
theorem tf21 : TFact Tryz.prog 21 (.int .i32) := ⟨inferInstance, inferInstance⟩
theorem tf22 : TFact Tryz.prog 22 (.sl 5 1 1 [.int .u8 0]) := ⟨inferInstance, inferInstance, inferInstance, inferInstance, inferInstance⟩
theorem tf23 : TFact Tryz.prog 23 (.st 3 [(0, 1, false), (1, 1, false), (2, 1, false)] (some [0, 1, 0])) := ⟨inferInstance, fun i off n ag h => by
    match i, h with
    | 0, h => cases h; infer_instance
    | 1, h => cases h; infer_instance
    | 2, h => cases h; infer_instance
    | j + 3, h => simp at h, inferInstance, fun k h => by
    cases h; infer_instance⟩
theorem tf24 : TFact Tryz.prog 24 (.st 3 [(0, 1, false), (1, 1, false), (2, 1, false)] (some [0, 1, 0])) := ⟨inferInstance, fun i off n ag h => by
    match i, h with
    | 0, h => cases h; infer_instance
    | 1, h => cases h; infer_instance
    | 2, h => cases h; infer_instance
    | j + 3, h => simp at h, inferInstance, fun k h => by
    cases h; infer_instance⟩
theorem tf25 : TFact Tryz.prog 25 (.one) := (inferInstance : TOne Tryz.prog 25)
theorem tf26 : TFact Tryz.prog 26 (.int .i64) := ⟨inferInstance, inferInstance⟩
theorem tf27 : TFact Tryz.prog 27 (.one) := (inferInstance : TOne Tryz.prog 27)
theorem tf28 : TFact Tryz.prog 28 (.one) := (inferInstance : TOne Tryz.prog 28)
theorem tf29 : TFact Tryz.prog 29 (.one) := (inferInstance : TOne Tryz.prog 29)
theorem tf30 : TFact Tryz.prog 30 (.one) := (inferInstance : TOne Tryz.prog 30)
theorem tf31 : TFact Tryz.prog 31 (.one) := (inferInstance : TOne Tryz.prog 31)
theorem tf32 : TFact Tryz.prog 32 (.one) := (inferInstance : TOne Tryz.prog 32)
theorem tf33 : TFact Tryz.prog 33 (.one) := (inferInstance : TOne Tryz.prog 33)
theorem tf34 : TFact Tryz.prog 34 (.int .u64) := ⟨inferInstance, inferInstance⟩
theorem tf35 : TFact Tryz.prog 35 (.one) := (inferInstance : TOne Tryz.prog 35)
theorem tf36 : TFact Tryz.prog 36 (.one) := (inferInstance : TOne Tryz.prog 36)
theorem tf37 : TFact Tryz.prog 37 (.one) := (inferInstance : TOne Tryz.prog 37)
theorem tf38 : TFact Tryz.prog 38 (.one) := (inferInstance : TOne Tryz.prog 38)
theorem tf39 : TFact Tryz.prog 39 (.one) := (inferInstance : TOne Tryz.prog 39)
theorem tf40 : TFact Tryz.prog 40 (.one) := (inferInstance : TOne Tryz.prog 40)
theorem tf41 : TFact Tryz.prog 41 (.one) := (inferInstance : TOne Tryz.prog 41)
theorem tf42 : TFact Tryz.prog 42 (.one) := (inferInstance : TOne Tryz.prog 42)
theorem tf43 : TFact Tryz.prog 43 (.one) := (inferInstance : TOne Tryz.prog 43)
theorem tf44 : TFact Tryz.prog 44 (.one) := (inferInstance : TOne Tryz.prog 44)
theorem tf45 : TFact Tryz.prog 45 (.sl 9 1 16 [.string ⟨#[]⟩]) := ⟨inferInstance, inferInstance, inferInstance, inferInstance, inferInstance⟩
theorem tf46 : TFact Tryz.prog 46 (.one) := (inferInstance : TOne Tryz.prog 46)
theorem tf47 : TFact Tryz.prog 47 (.one) := (inferInstance : TOne Tryz.prog 47)
theorem tf48 : TFact Tryz.prog 48 (.one) := (inferInstance : TOne Tryz.prog 48)
theorem tf49 : TFact Tryz.prog 49 (.one) := (inferInstance : TOne Tryz.prog 49)
theorem tf50 : TFact Tryz.prog 50 (.one) := (inferInstance : TOne Tryz.prog 50)
theorem tf51 : TFact Tryz.prog 51 (.one) := (inferInstance : TOne Tryz.prog 51)
theorem tf52 : TFact Tryz.prog 52 (.one) := (inferInstance : TOne Tryz.prog 52)
theorem tf53 : TFact Tryz.prog 53 (.one) := (inferInstance : TOne Tryz.prog 53)
theorem tf54 : TFact Tryz.prog 54 (.st 2 [(0, 1, false), (1, 1, false)] (some [0, 0])) := ⟨inferInstance, fun i off n ag h => by
    match i, h with
    | 0, h => cases h; infer_instance
    | 1, h => cases h; infer_instance
    | j + 2, h => simp at h, inferInstance, fun k h => by
    cases h; infer_instance⟩
theorem tf55 : TFact Tryz.prog 55 (.st 2 [(0, 1, false), (1, 1, false)] (some [0, 0])) := ⟨inferInstance, fun i off n ag h => by
    match i, h with
    | 0, h => cases h; infer_instance
    | 1, h => cases h; infer_instance
    | j + 2, h => simp at h, inferInstance, fun k h => by
    cases h; infer_instance⟩
theorem tf56 : TFact Tryz.prog 56 (.int .u64) := ⟨inferInstance, inferInstance⟩
theorem tf57 : TFact Tryz.prog 57 (.one) := (inferInstance : TOne Tryz.prog 57)
theorem tf58 : TFact Tryz.prog 58 (.one) := (inferInstance : TOne Tryz.prog 58)
theorem tf59 : TFact Tryz.prog 59 (.one) := (inferInstance : TOne Tryz.prog 59)
theorem tf60 : TFact Tryz.prog 60 (.one) := (inferInstance : TOne Tryz.prog 60)
theorem tf61 : TFact Tryz.prog 61 (.st 2 [(0, 1, false), (1, 1, false)] none) := ⟨inferInstance, fun i off n ag h => by
    match i, h with
    | 0, h => cases h; infer_instance
    | 1, h => cases h; infer_instance
    | j + 2, h => simp at h, inferInstance, fun k h => by
    cases h⟩
theorem tf62 : TFact Tryz.prog 62 (.st 2 [(0, 1, false), (1, 1, false)] none) := ⟨inferInstance, fun i off n ag h => by
    match i, h with
    | 0, h => cases h; infer_instance
    | 1, h => cases h; infer_instance
    | j + 2, h => simp at h, inferInstance, fun k h => by
    cases h⟩
theorem tf63 : TFact Tryz.prog 63 (.one) := (inferInstance : TOne Tryz.prog 63)
theorem tf64 : TFact Tryz.prog 64 (.ifc) := ⟨inferInstance, inferInstance⟩
theorem tf65 : TFact Tryz.prog 65 (.ifc) := ⟨inferInstance, inferInstance⟩
theorem tf66 : TFact Tryz.prog 66 (.one) := (inferInstance : TOne Tryz.prog 66)
theorem tf67 : TFact Tryz.prog 67 (.one) := (inferInstance : TOne Tryz.prog 67)
theorem tf68 : TFact Tryz.prog 68 (.one) := (inferInstance : TOne Tryz.prog 68)
theorem tf69 : TFact Tryz.prog 69 (.one) := (inferInstance : TOne Tryz.prog 69)
theorem tf70 : TFact Tryz.prog 70 (.one) := (inferInstance : TOne Tryz.prog 70)
theorem tf71 : TFact Tryz.prog 71 (.one) := (inferInstance : TOne Tryz.prog 71)
theorem tf72 : TFact Tryz.prog 72 (.one) := (inferInstance : TOne Tryz.prog 72)
theorem tf73 : TFact Tryz.prog 73 (.one) := (inferInstance : TOne Tryz.prog 73)
theorem tf74 : TFact Tryz.prog 74 (.one) := (inferInstance : TOne Tryz.prog 74)
theorem tf75 : TFact Tryz.prog 75 (.one) := (inferInstance : TOne Tryz.prog 75)
theorem tf77 : TFact Tryz.prog 77 (.one) := (inferInstance : TOne Tryz.prog 77)
theorem tf78 : TFact Tryz.prog 78 (.one) := (inferInstance : TOne Tryz.prog 78)
theorem tf79 : TFact Tryz.prog 79 (.one) := (inferInstance : TOne Tryz.prog 79)
theorem tf80 : TFact Tryz.prog 80 (.one) := (inferInstance : TOne Tryz.prog 80)
theorem tf81 : TFact Tryz.prog 81 (.int .u32) := ⟨inferInstance, inferInstance⟩
theorem tf82 : TFact Tryz.prog 82 (.one) := (inferInstance : TOne Tryz.prog 82)
theorem tf83 : TFact Tryz.prog 83 (.one) := (inferInstance : TOne Tryz.prog 83)
theorem tf84 : TFact Tryz.prog 84 (.one) := (inferInstance : TOne Tryz.prog 84)
theorem tf85 : TFact Tryz.prog 85 (.one) := (inferInstance : TOne Tryz.prog 85)
theorem tf86 : TFact Tryz.prog 86 (.one) := (inferInstance : TOne Tryz.prog 86)
theorem tf87 : TFact Tryz.prog 87 (.sl 22 1 24 [.slice none 0 0]) := ⟨inferInstance, inferInstance, inferInstance, inferInstance, inferInstance⟩
theorem tf88 : TFact Tryz.prog 88 (.one) := (inferInstance : TOne Tryz.prog 88)
theorem tf89 : TFact Tryz.prog 89 (.one) := (inferInstance : TOne Tryz.prog 89)
theorem tf90 : TFact Tryz.prog 90 (.one) := (inferInstance : TOne Tryz.prog 90)
theorem tf93 : TFact Tryz.prog 93 (.one) := (inferInstance : TOne Tryz.prog 93)
theorem tf94 : TFact Tryz.prog 94 (.one) := (inferInstance : TOne Tryz.prog 94)
theorem tf95 : TFact Tryz.prog 95 (.one) := (inferInstance : TOne Tryz.prog 95)
theorem tf96 : TFact Tryz.prog 96 (.one) := (inferInstance : TOne Tryz.prog 96)
theorem tf97 : TFact Tryz.prog 97 (.one) := (inferInstance : TOne Tryz.prog 97)
theorem tf98 : TFact Tryz.prog 98 (.one) := (inferInstance : TOne Tryz.prog 98)
theorem tf99 : TFact Tryz.prog 99 (.one) := (inferInstance : TOne Tryz.prog 99)
theorem tf100 : TFact Tryz.prog 100 (.one) := (inferInstance : TOne Tryz.prog 100)
theorem tf101 : TFact Tryz.prog 101 (.one) := (inferInstance : TOne Tryz.prog 101)
theorem tf102 : TFact Tryz.prog 102 (.one) := (inferInstance : TOne Tryz.prog 102)
theorem tf105 : TFact Tryz.prog 105 (.one) := (inferInstance : TOne Tryz.prog 105)
theorem tf106 : TFact Tryz.prog 106 (.one) := (inferInstance : TOne Tryz.prog 106)
theorem tf107 : TFact Tryz.prog 107 (.one) := (inferInstance : TOne Tryz.prog 107)
theorem tf108 : TFact Tryz.prog 108 (.one) := (inferInstance : TOne Tryz.prog 108)
theorem tf109 : TFact Tryz.prog 109 (.one) := (inferInstance : TOne Tryz.prog 109)
theorem tf110 : TFact Tryz.prog 110 (.one) := (inferInstance : TOne Tryz.prog 110)
theorem tf111 : TFact Tryz.prog 111 (.one) := (inferInstance : TOne Tryz.prog 111)
theorem tf112 : TFact Tryz.prog 112 (.one) := (inferInstance : TOne Tryz.prog 112)
theorem tf113 : TFact Tryz.prog 113 (.int .i64) := ⟨inferInstance, inferInstance⟩
theorem tf114 : TFact Tryz.prog 114 (.one) := (inferInstance : TOne Tryz.prog 114)
theorem tf115 : TFact Tryz.prog 115 (.one) := (inferInstance : TOne Tryz.prog 115)
theorem tf116 : TFact Tryz.prog 116 (.one) := (inferInstance : TOne Tryz.prog 116)
theorem tf117 : TFact Tryz.prog 117 (.one) := (inferInstance : TOne Tryz.prog 117)
theorem tf118 : TFact Tryz.prog 118 (.one) := (inferInstance : TOne Tryz.prog 118)
theorem tf119 : TFact Tryz.prog 119 (.one) := (inferInstance : TOne Tryz.prog 119)
theorem tf120 : TFact Tryz.prog 120 (.one) := (inferInstance : TOne Tryz.prog 120)
theorem tf121 : TFact Tryz.prog 121 (.one) := (inferInstance : TOne Tryz.prog 121)
theorem tf122 : TFact Tryz.prog 122 (.one) := (inferInstance : TOne Tryz.prog 122)
theorem tf123 : TFact Tryz.prog 123 (.one) := (inferInstance : TOne Tryz.prog 123)
theorem tf124 : TFact Tryz.prog 124 (.one) := (inferInstance : TOne Tryz.prog 124)
theorem tf125 : TFact Tryz.prog 125 (.one) := (inferInstance : TOne Tryz.prog 125)
theorem tf126 : TFact Tryz.prog 126 (.st 3 [(0, 1, false), (1, 1, false), (2, 1, false)] none) := ⟨inferInstance, fun i off n ag h => by
    match i, h with
    | 0, h => cases h; infer_instance
    | 1, h => cases h; infer_instance
    | 2, h => cases h; infer_instance
    | j + 3, h => simp at h, inferInstance, fun k h => by
    cases h⟩
theorem tf127 : TFact Tryz.prog 127 (.st 3 [(0, 1, false), (1, 1, false), (2, 1, false)] none) := ⟨inferInstance, fun i off n ag h => by
    match i, h with
    | 0, h => cases h; infer_instance
    | 1, h => cases h; infer_instance
    | 2, h => cases h; infer_instance
    | j + 3, h => simp at h, inferInstance, fun k h => by
    cases h⟩
theorem tf128 : TFact Tryz.prog 128 (.one) := (inferInstance : TOne Tryz.prog 128)
theorem tf132 : TFact Tryz.prog 132 (.st 2 [(0, 1, false), (1, 1, false)] (some [0, 0])) := ⟨inferInstance, fun i off n ag h => by
    match i, h with
    | 0, h => cases h; infer_instance
    | 1, h => cases h; infer_instance
    | j + 2, h => simp at h, inferInstance, fun k h => by
    cases h; infer_instance⟩
theorem tf133 : TFact Tryz.prog 133 (.st 2 [(0, 1, false), (1, 1, false)] (some [0, 0])) := ⟨inferInstance, fun i off n ag h => by
    match i, h with
    | 0, h => cases h; infer_instance
    | 1, h => cases h; infer_instance
    | j + 2, h => simp at h, inferInstance, fun k h => by
    cases h; infer_instance⟩
theorem tf135 : TFact Tryz.prog 135 (.one) := (inferInstance : TOne Tryz.prog 135)
theorem tf136 : TFact Tryz.prog 136 (.one) := (inferInstance : TOne Tryz.prog 136)
theorem tf137 : TFact Tryz.prog 137 (.one) := (inferInstance : TOne Tryz.prog 137)
theorem tf138 : TFact Tryz.prog 138 (.st 1 [(0, 1, false)] (some [1])) := ⟨inferInstance, fun i off n ag h => by
    match i, h with
    | 0, h => cases h; infer_instance
    | j + 1, h => simp at h, inferInstance, fun k h => by
    cases h; infer_instance⟩
theorem tf139 : TFact Tryz.prog 139 (.st 1 [(0, 1, false)] (some [1])) := ⟨inferInstance, fun i off n ag h => by
    match i, h with
    | 0, h => cases h; infer_instance
    | j + 1, h => simp at h, inferInstance, fun k h => by
    cases h; infer_instance⟩
theorem tf140 : TFact Tryz.prog 140 (.one) := (inferInstance : TOne Tryz.prog 140)
theorem tf141 : TFact Tryz.prog 141 (.st 4 [(0, 1, false), (1, 1, false), (2, 1, false), (3, 1, false)] none) := ⟨inferInstance, fun i off n ag h => by
    match i, h with
    | 0, h => cases h; infer_instance
    | 1, h => cases h; infer_instance
    | 2, h => cases h; infer_instance
    | 3, h => cases h; infer_instance
    | j + 4, h => simp at h, inferInstance, fun k h => by
    cases h⟩
theorem tf142 : TFact Tryz.prog 142 (.st 4 [(0, 1, false), (1, 1, false), (2, 1, false), (3, 1, false)] none) := ⟨inferInstance, fun i off n ag h => by
    match i, h with
    | 0, h => cases h; infer_instance
    | 1, h => cases h; infer_instance
    | 2, h => cases h; infer_instance
    | 3, h => cases h; infer_instance
    | j + 4, h => simp at h, inferInstance, fun k h => by
    cases h⟩
theorem tf146 : TFact Tryz.prog 146 (.int .u8) := ⟨inferInstance, inferInstance⟩
theorem tf147 : TFact Tryz.prog 147 (.int .u8) := ⟨inferInstance, inferInstance⟩
theorem tf148 : TFact Tryz.prog 148 (.one) := (inferInstance : TOne Tryz.prog 148)
theorem tf149 : TFact Tryz.prog 149 (.int .i32) := ⟨inferInstance, inferInstance⟩
theorem tf150 : TFact Tryz.prog 150 (.int .i32) := ⟨inferInstance, inferInstance⟩
theorem tf151 : TFact Tryz.prog 151 (.st 11 [(0, 1, false), (1, 1, false), (2, 1, false), (3, 1, false), (4, 1, false), (5, 1, false), (6, 1, false), (7, 1, false), (8, 1, false), (9, 1, false), (10, 1, false)] none) := ⟨inferInstance, fun i off n ag h => by
    match i, h with
    | 0, h => cases h; infer_instance
    | 1, h => cases h; infer_instance
    | 2, h => cases h; infer_instance
    | 3, h => cases h; infer_instance
    | 4, h => cases h; infer_instance
    | 5, h => cases h; infer_instance
    | 6, h => cases h; infer_instance
    | 7, h => cases h; infer_instance
    | 8, h => cases h; infer_instance
    | 9, h => cases h; infer_instance
    | 10, h => cases h; infer_instance
    | j + 11, h => simp at h, inferInstance, fun k h => by
    cases h⟩
theorem tf152 : TFact Tryz.prog 152 (.st 11 [(0, 1, false), (1, 1, false), (2, 1, false), (3, 1, false), (4, 1, false), (5, 1, false), (6, 1, false), (7, 1, false), (8, 1, false), (9, 1, false), (10, 1, false)] none) := ⟨inferInstance, fun i off n ag h => by
    match i, h with
    | 0, h => cases h; infer_instance
    | 1, h => cases h; infer_instance
    | 2, h => cases h; infer_instance
    | 3, h => cases h; infer_instance
    | 4, h => cases h; infer_instance
    | 5, h => cases h; infer_instance
    | 6, h => cases h; infer_instance
    | 7, h => cases h; infer_instance
    | 8, h => cases h; infer_instance
    | 9, h => cases h; infer_instance
    | 10, h => cases h; infer_instance
    | j + 11, h => simp at h, inferInstance, fun k h => by
    cases h⟩
def TAB : List (Nat × TI) := [(0, .one), (1, .one), (2, .int .i64), (3, .int .i64), (4, .bool), (5, .int .u8), (6, .int .u8), (7, .st 4 [(0, 1, false), (1, 1, false), (2, 1, false), (3, 1, false)] (some [0, 0, 2, 0])), (8, .st 4 [(0, 1, false), (1, 1, false), (2, 1, false), (3, 1, false)] (some [0, 0, 2, 0])), (9, .str), (10, .str), (11, .str), (12, .int .u64), (13, .st 2 [(0, 1, false), (1, 1, false)] none), (14, .st 2 [(0, 1, false), (1, 1, false)] none), (15, .one), (16, .one), (17, .one), (18, .st 1 [(0, 1, false)] none), (19, .st 1 [(0, 1, false)] none), (20, .ifc), (21, .int .i32), (22, .sl 5 1 1 [.int .u8 0]), (23, .st 3 [(0, 1, false), (1, 1, false), (2, 1, false)] (some [0, 1, 0])), (24, .st 3 [(0, 1, false), (1, 1, false), (2, 1, false)] (some [0, 1, 0])), (25, .one), (26, .int .i64), (27, .one), (28, .one), (29, .one), (30, .one), (31, .one), (32, .one), (33, .one), (34, .int .u64), (35, .one), (36, .one), (37, .one), (38, .one), (39, .one), (40, .one), (41, .one), (42, .one), (43, .one), (44, .one), (45, .sl 9 1 16 [.string ⟨#[]⟩]), (46, .one), (47, .one), (48, .one), (49, .one), (50, .one), (51, .one), (52, .one), (53, .one), (54, .st 2 [(0, 1, false), (1, 1, false)] (some [0, 0])), (55, .st 2 [(0, 1, false), (1, 1, false)] (some [0, 0])), (56, .int .u64), (57, .one), (58, .one), (59, .one), (60, .one), (61, .st 2 [(0, 1, false), (1, 1, false)] none), (62, .st 2 [(0, 1, false), (1, 1, false)] none), (63, .one), (64, .ifc), (65, .ifc), (66, .one), (67, .one), (68, .one), (69, .one), (70, .one), (71, .one), (72, .one), (73, .one), (74, .one), (75, .one), (77, .one), (78, .one), (79, .one), (80, .one), (81, .int .u32), (82, .one), (83, .one), (84, .one), (85, .one), (86, .one), (87, .sl 22 1 24 [.slice none 0 0]), (88, .one), (89, .one), (90, .one), (93, .one), (94, .one), (95, .one), (96, .one), (97, .one), (98, .one), (99, .one), (100, .one), (101, .one), (102, .one), (105, .one), (106, .one), (107, .one), (108, .one), (109, .one), (110, .one), (111, .one), (112, .one), (113, .int .i64), (114, .one), (115, .one), (116, .one), (117, .one), (118, .one), (119, .one), (120, .one), (121, .one), (122, .one), (123, .one), (124, .one), (125, .one), (126, .st 3 [(0, 1, false), (1, 1, false), (2, 1, false)] none), (127, .st 3 [(0, 1, false), (1, 1, false), (2, 1, false)] none), (128, .one), (132, .st 2 [(0, 1, false), (1, 1, false)] (some [0, 0])), (133, .st 2 [(0, 1, false), (1, 1, false)] (some [0, 0])), (135, .one), (136, .one), (137, .one), (138, .st 1 [(0, 1, false)] (some [1])), (139, .st 1 [(0, 1, false)] (some [1])), (140, .one), (141, .st 4 [(0, 1, false), (1, 1, false), (2, 1, false), (3, 1, false)] none), (142, .st 4 [(0, 1, false), (1, 1, false), (2, 1, false), (3, 1, false)] none), (146, .int .u8), (147, .int .u8), (148, .one), (149, .int .i32), (150, .int .i32), (151, .st 11 [(0, 1, false), (1, 1, false), (2, 1, false), (3, 1, false), (4, 1, false), (5, 1, false), (6, 1, false), (7, 1, false), (8, 1, false), (9, 1, false), (10, 1, false)] none), (152, .st 11 [(0, 1, false), (1, 1, false), (2, 1, false), (3, 1, false), (4, 1, false), (5, 1, false), (6, 1, false), (7, 1, false), (8, 1, false), (9, 1, false), (10, 1, false)] none)]
def ZAB : List (Nat × List Value) := [(1, [.nilFunc]), (2, [.int .i64 0]), (3, [.int .i64 0]), (4, [.bool false]), (5, [.int .u8 0]), (6, [.int .u8 0]), (7, [.int .i64 0, .int .i64 0, .bool false, .int .u8 0]), (8, [.int .i64 0, .int .i64 0, .bool false, .int .u8 0]), (9, [.string ⟨#[]⟩]), (10, [.string ⟨#[]⟩]), (11, [.string ⟨#[]⟩]), (12, [.int .u64 0]), (13, [.string ⟨#[]⟩, .int .u64 0]), (14, [.string ⟨#[]⟩, .int .u64 0]), (15, [.pointer none]), (16, [.pointer none]), (17, [.pointer none]), (18, [.pointer none]), (19, [.pointer none]), (20, [.nilIface]), (21, [.int .i32 0]), (22, [.slice none 0 0]), (23, [.int .i64 0, .string ⟨#[]⟩, .int .i64 0]), (24, [.int .i64 0, .string ⟨#[]⟩, .int .i64 0]), (25, [.nilFunc]), (26, [.int .i64 0]), (28, [.nilFunc]), (29, [.nilFunc]), (31, [.nilFunc]), (32, [.nilFunc]), (33, [.nilFunc]), (34, [.int .u64 0]), (35, [.nilFunc]), (36, [.nilFunc]), (37, [.nilFunc]), (38, [.nilFunc]), (39, [.nilFunc]), (40, [.nilFunc]), (41, [.nilFunc]), (42, [.nilFunc]), (43, [.nilFunc]), (44, [.nilFunc]), (45, [.slice none 0 0]), (47, [.nilFunc]), (49, [.nilFunc]), (50, [.nilFunc]), (51, [.nilFunc]), (53, [.nilFunc]), (54, [.int .i64 0, .int .i64 0]), (55, [.int .i64 0, .int .i64 0]), (56, [.int .u64 0]), (58, [.nilFunc]), (59, [.nilFunc]), (60, [.pointer none]), (61, [.pointer none, .slice none 0 0]), (62, [.pointer none, .slice none 0 0]), (63, [.nilFunc]), (64, [.nilIface]), (65, [.nilIface]), (67, [.nilFunc]), (68, [.nilFunc]), (69, [.nilFunc]), (70, [.nilFunc]), (71, [.nilFunc]), (72, [.nilFunc]), (73, [.nilFunc]), (74, [.nilFunc]), (75, [.nilFunc]), (77, [.nilFunc]), (78, [.nilFunc]), (80, [.nilFunc]), (81, [.int .u32 0]), (83, [.nilFunc]), (85, [.nilFunc]), (86, [.pointer none]), (87, [.slice none 0 0]), (88, [.nilFunc]), (89, [.nilFunc]), (90, [.nilFunc]), (94, [.nilFunc]), (95, [.nilFunc]), (96, [.pointer none]), (97, [.nilFunc]), (98, [.nilFunc]), (99, [.nilFunc]), (100, [.nilFunc]), (101, [.nilFunc]), (102, [.nilFunc]), (105, [.nilFunc]), (107, [.nilFunc]), (108, [.nilFunc]), (109, [.nilFunc]), (111, [.nilFunc]), (112, [.nilFunc]), (113, [.int .i64 0]), (115, [.nilFunc]), (116, [.pointer none]), (117, [.nilFunc]), (118, [.nilFunc]), (119, [.nilFunc]), (120, [.nilFunc]), (121, [.nilFunc]), (122, [.nilFunc]), (124, [.nilFunc]), (125, [.nilFunc]), (126, [.string ⟨#[]⟩, .string ⟨#[]⟩, .nilIface]), (127, [.string ⟨#[]⟩, .string ⟨#[]⟩, .nilIface]), (128, [.nilFunc]), (132, [.int .u8 0, .int .u8 0]), (133, [.int .u8 0, .int .u8 0]), (135, [.nilFunc]), (136, [.nilFunc]), (137, [.pointer none]), (138, [.string ⟨#[]⟩]), (139, [.string ⟨#[]⟩]), (140, [.nilFunc]), (141, [.pointer none, .pointer none, .pointer none, .string ⟨#[]⟩]), (142, [.pointer none, .pointer none, .pointer none, .string ⟨#[]⟩]), (146, [.int .u8 0]), (147, [.int .u8 0]), (148, [.nilFunc]), (149, [.int .i32 0]), (150, [.int .i32 0]), (151, [.int .u64 0, .int .u64 0, .int .u32 0, .int .u8 0, .int .u8 0, .int .u8 0, .int .u8 0, .nilFunc, .pointer none, .int .i32 0, .int .i32 0]), (152, [.int .u64 0, .int .u64 0, .int .u32 0, .int .u8 0, .int .u8 0, .int .u8 0, .int .u8 0, .nilFunc, .pointer none, .int .i32 0, .int .i32 0])]
def T : Nat → Option TI := lookT TAB
def Z : Nat → Option (List Value) := lookT ZAB
theorem hT : TOk Tryz.prog T Z := by
  refine ⟨fun t i h => ?_, fun t z h => ?_⟩
  · have hall : AllT (TFact Tryz.prog) TAB := by
      unfold TAB
      exact ⟨tf0, tf1, tf2, tf3, tf4, tf5, tf6, tf7, tf8, tf9, tf10, tf11, tf12, tf13, tf14, tf15, tf16, tf17, tf18, tf19, tf20, tf21, tf22, tf23, tf24, tf25, tf26, tf27, tf28, tf29, tf30, tf31, tf32, tf33, tf34, tf35, tf36, tf37, tf38, tf39, tf40, tf41, tf42, tf43, tf44, tf45, tf46, tf47, tf48, tf49, tf50, tf51, tf52, tf53, tf54, tf55, tf56, tf57, tf58, tf59, tf60, tf61, tf62, tf63, tf64, tf65, tf66, tf67, tf68, tf69, tf70, tf71, tf72, tf73, tf74, tf75, tf77, tf78, tf79, tf80, tf81, tf82, tf83, tf84, tf85, tf86, tf87, tf88, tf89, tf90, tf93, tf94, tf95, tf96, tf97, tf98, tf99, tf100, tf101, tf102, tf105, tf106, tf107, tf108, tf109, tf110, tf111, tf112, tf113, tf114, tf115, tf116, tf117, tf118, tf119, tf120, tf121, tf122, tf123, tf124, tf125, tf126, tf127, tf128, tf132, tf133, tf135, tf136, tf137, tf138, tf139, tf140, tf141, tf142, tf146, tf147, tf148, tf149, tf150, tf151, tf152, trivial⟩
    exact hall.at h
  · have hall : AllT (TZer Tryz.prog) ZAB := by
      unfold ZAB
      exact ⟨inferInstance, inferInstance, inferInstance, inferInstance, inferInstance, inferInstance, inferInstance, inferInstance, inferInstance, inferInstance, inferInstance, inferInstance, inferInstance, inferInstance, inferInstance, inferInstance, inferInstance, inferInstance, inferInstance, inferInstance, inferInstance, inferInstance, inferInstance, inferInstance, inferInstance, inferInstance, inferInstance, inferInstance, inferInstance, inferInstance, inferInstance, inferInstance, inferInstance, inferInstance, inferInstance, inferInstance, inferInstance, inferInstance, inferInstance, inferInstance, inferInstance, inferInstance, inferInstance, inferInstance, inferInstance, inferInstance, inferInstance, inferInstance, inferInstance, inferInstance, inferInstance, inferInstance, inferInstance, inferInstance, inferInstance, inferInstance, inferInstance, inferInstance, inferInstance, inferInstance, inferInstance, inferInstance, inferInstance, inferInstance, inferInstance, inferInstance, inferInstance, inferInstance, inferInstance, inferInstance, inferInstance, inferInstance, inferInstance, inferInstance, inferInstance, inferInstance, inferInstance, inferInstance, inferInstance, inferInstance, inferInstance, inferInstance, inferInstance, inferInstance, inferInstance, inferInstance, inferInstance, inferInstance, inferInstance, inferInstance, inferInstance, inferInstance, inferInstance, inferInstance, inferInstance, inferInstance, inferInstance, inferInstance, inferInstance, inferInstance, inferInstance, inferInstance, inferInstance, inferInstance, inferInstance, inferInstance, inferInstance, inferInstance, inferInstance, inferInstance, inferInstance, inferInstance, inferInstance, inferInstance, inferInstance, inferInstance, inferInstance, inferInstance, inferInstance, inferInstance, inferInstance, inferInstance, inferInstance, inferInstance, inferInstance, trivial⟩
    exact hall.at h
theorem hM : Tryz.prog.follows .mixedOrders = true := by kernel_rfl
end Go.Proofs.YtkjgmjocikmplaaGreatDoor
