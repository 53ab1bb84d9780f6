/- The tables of types for the data machine. (Written by wip/dtab.py.). -/
import Derived.Test.YtbphihljkbdfpaaGreatDoorZ3
import Derived.Test.YtbphihljkbdfpaaGreatDoorZ6
namespace Go.Proofs.YtbphihljkbdfpaaGreatDoor
open Go.RowKit
def lookT {α : Type} : List (Nat × α) → Nat → Option α
  | [], _ => none
  | (k, v) :: r, t => match Nat.beq k t with
    | true => some v
    | false => lookT r t
def AllT {α : Type} (R : Nat → α → Prop) : List (Nat × α) → Prop
  | [] => True
  | (k, v) :: l => R k v ∧ AllT R l
theorem AllT.at {α : Type} {R : Nat → α → Prop} : ∀ {l : List (Nat × α)} {t : Nat} {x : α}, AllT R l → lookT l t = some x → R t x
  | [], _, _, _, h => by cases h
  | (k, v) :: r, t, x, ha, h => by
    simp only [lookT] at h
    split at h
    · rename_i hk
      have hk := Nat.eq_of_beq_eq_true hk
      cases h
      subst hk
      exact ha.1
    · exact AllT.at ha.2 h
set_option maxRecDepth 100000
theorem tf0 : TFact Tryz.prog 0 (.one) := (inferInstance : TOne Tryz.prog 0)
theorem tf1 : TFact Tryz.prog 1 (.one) := (inferInstance : TOne Tryz.prog 1)
theorem tf2 : TFact Tryz.prog 2 (.int .i64) := ⟨inferInstance, inferInstance⟩
theorem tf3 : TFact Tryz.prog 3 (.int .i64) := ⟨inferInstance, inferInstance⟩
theorem tf4 : TFact Tryz.prog 4 (.bool) := ⟨inferInstance, inferInstance⟩
theorem tf5 : TFact Tryz.prog 5 (.int .u8) := ⟨inferInstance, inferInstance⟩
theorem tf6 : TFact Tryz.prog 6 (.int .u8) := ⟨inferInstance, inferInstance⟩
theorem tf7 : TFact Tryz.prog 7 (.st 4 [(0, 1, false), (1, 1, false), (2, 1, false), (3, 1, false)] (some [0, 0, 2, 0])) := ⟨inferInstance, fun i off n ag h => by
    match i, h with
    | 0, h => cases h; infer_instance
    | 1, h => cases h; infer_instance
    | 2, h => cases h; infer_instance
    | 3, h => cases h; infer_instance
    | j + 4, h => simp at h, inferInstance, fun k h => by
    cases h; infer_instance⟩
theorem tf8 : TFact Tryz.prog 8 (.st 4 [(0, 1, false), (1, 1, false), (2, 1, false), (3, 1, false)] (some [0, 0, 2, 0])) := ⟨inferInstance, fun i off n ag h => by
    match i, h with
    | 0, h => cases h; infer_instance
    | 1, h => cases h; infer_instance
    | 2, h => cases h; infer_instance
    | 3, h => cases h; infer_instance
    | j + 4, h => simp at h, inferInstance, fun k h => by
    cases h; infer_instance⟩
theorem tf9 : TFact Tryz.prog 9 (.str) := ⟨inferInstance, inferInstance⟩
theorem tf10 : TFact Tryz.prog 10 (.str) := ⟨inferInstance, inferInstance⟩
theorem tf11 : TFact Tryz.prog 11 (.str) := ⟨inferInstance, inferInstance⟩
theorem tf12 : TFact Tryz.prog 12 (.int .u64) := ⟨inferInstance, inferInstance⟩
theorem tf13 : TFact Tryz.prog 13 (.st 2 [(0, 1, false), (1, 1, false)] none) := ⟨inferInstance, fun i off n ag h => by
    match i, h with
    | 0, h => cases h; infer_instance
    | 1, h => cases h; infer_instance
    | j + 2, h => simp at h, inferInstance, fun k h => by
    cases h⟩
theorem tf14 : TFact Tryz.prog 14 (.st 2 [(0, 1, false), (1, 1, false)] none) := ⟨inferInstance, fun i off n ag h => by
    match i, h with
    | 0, h => cases h; infer_instance
    | 1, h => cases h; infer_instance
    | j + 2, h => simp at h, inferInstance, fun k h => by
    cases h⟩
theorem tf15 : TFact Tryz.prog 15 (.one) := (inferInstance : TOne Tryz.prog 15)
theorem tf16 : TFact Tryz.prog 16 (.one) := (inferInstance : TOne Tryz.prog 16)
theorem tf17 : TFact Tryz.prog 17 (.one) := (inferInstance : TOne Tryz.prog 17)
theorem tf18 : TFact Tryz.prog 18 (.st 1 [(0, 1, false)] none) := ⟨inferInstance, fun i off n ag h => by
    match i, h with
    | 0, h => cases h; infer_instance
    | j + 1, h => simp at h, inferInstance, fun k h => by
    cases h⟩
theorem tf19 : TFact Tryz.prog 19 (.st 1 [(0, 1, false)] none) := ⟨inferInstance, fun i off n ag h => by
    match i, h with
    | 0, h => cases h; infer_instance
    | j + 1, h => simp at h, inferInstance, fun k h => by
    cases h⟩
theorem tf20 : TFact Tryz.prog 20 (.ifc) := ⟨inferInstance, inferInstance⟩
theorem tf21 : TFact Tryz.prog 21 (.int .i32) := ⟨inferInstance, inferInstance⟩
theorem tf22 : TFact Tryz.prog 22 (.sl 3 1 8 [.int .i64 0]) := ⟨inferInstance, inferInstance, inferInstance, inferInstance, inferInstance⟩
theorem tf23 : TFact Tryz.prog 23 (.sl 26 6 88 [.int .i64 0, .slice none 0 0, .string ⟨#[]⟩, .slice none 0 0, .int .i64 0, .int .i64 0]) := ⟨inferInstance, inferInstance, inferInstance, inferInstance, inferInstance⟩
theorem tf24 : TFact Tryz.prog 24 (.sl 9 1 16 [.string ⟨#[]⟩]) := ⟨inferInstance, inferInstance, inferInstance, inferInstance, inferInstance⟩
theorem tf25 : TFact Tryz.prog 25 (.st 6 [(0, 1, false), (1, 1, false), (2, 1, false), (3, 1, false), (4, 1, false), (5, 1, false)] none) := ⟨inferInstance, fun i off n ag h => by
    match i, h with
    | 0, h => cases h; infer_instance
    | 1, h => cases h; infer_instance
    | 2, h => cases h; infer_instance
    | 3, h => cases h; infer_instance
    | 4, h => cases h; infer_instance
    | 5, h => cases h; infer_instance
    | j + 6, h => simp at h, inferInstance, fun k h => by
    cases h⟩
theorem tf26 : TFact Tryz.prog 26 (.st 6 [(0, 1, false), (1, 1, false), (2, 1, false), (3, 1, false), (4, 1, false), (5, 1, false)] none) := ⟨inferInstance, fun i off n ag h => by
    match i, h with
    | 0, h => cases h; infer_instance
    | 1, h => cases h; infer_instance
    | 2, h => cases h; infer_instance
    | 3, h => cases h; infer_instance
    | 4, h => cases h; infer_instance
    | 5, h => cases h; infer_instance
    | j + 6, h => simp at h, inferInstance, fun k h => by
    cases h⟩
theorem tf27 : TFact Tryz.prog 27 (.int .i64) := ⟨inferInstance, inferInstance⟩
theorem tf28 : TFact Tryz.prog 28 (.one) := (inferInstance : TOne Tryz.prog 28)
theorem tf29 : TFact Tryz.prog 29 (.one) := (inferInstance : TOne Tryz.prog 29)
theorem tf30 : TFact Tryz.prog 30 (.one) := (inferInstance : TOne Tryz.prog 30)
theorem tf31 : TFact Tryz.prog 31 (.one) := (inferInstance : TOne Tryz.prog 31)
theorem tf32 : TFact Tryz.prog 32 (.one) := (inferInstance : TOne Tryz.prog 32)
theorem tf33 : TFact Tryz.prog 33 (.one) := (inferInstance : TOne Tryz.prog 33)
theorem tf34 : TFact Tryz.prog 34 (.one) := (inferInstance : TOne Tryz.prog 34)
theorem tf35 : TFact Tryz.prog 35 (.one) := (inferInstance : TOne Tryz.prog 35)
theorem tf36 : TFact Tryz.prog 36 (.sl 60 7 104 [.string ⟨#[]⟩, .int .i64 0, .slice none 0 0, .string ⟨#[]⟩, .slice none 0 0, .int .i64 0, .int .i64 0]) := ⟨inferInstance, inferInstance, inferInstance, inferInstance, inferInstance⟩
theorem tf37 : TFact Tryz.prog 37 (.one) := (inferInstance : TOne Tryz.prog 37)
theorem tf38 : TFact Tryz.prog 38 (.one) := (inferInstance : TOne Tryz.prog 38)
theorem tf39 : TFact Tryz.prog 39 (.one) := (inferInstance : TOne Tryz.prog 39)
theorem tf40 : TFact Tryz.prog 40 (.one) := (inferInstance : TOne Tryz.prog 40)
theorem tf41 : TFact Tryz.prog 41 (.one) := (inferInstance : TOne Tryz.prog 41)
theorem tf42 : TFact Tryz.prog 42 (.one) := (inferInstance : TOne Tryz.prog 42)
theorem tf43 : TFact Tryz.prog 43 (.one) := (inferInstance : TOne Tryz.prog 43)
theorem tf44 : TFact Tryz.prog 44 (.one) := (inferInstance : TOne Tryz.prog 44)
theorem tf45 : TFact Tryz.prog 45 (.one) := (inferInstance : TOne Tryz.prog 45)
theorem tf46 : TFact Tryz.prog 46 (.one) := (inferInstance : TOne Tryz.prog 46)
theorem tf47 : TFact Tryz.prog 47 (.one) := (inferInstance : TOne Tryz.prog 47)
theorem tf48 : TFact Tryz.prog 48 (.one) := (inferInstance : TOne Tryz.prog 48)
theorem tf49 : TFact Tryz.prog 49 (.one) := (inferInstance : TOne Tryz.prog 49)
theorem tf50 : TFact Tryz.prog 50 (.one) := (inferInstance : TOne Tryz.prog 50)
theorem tf51 : TFact Tryz.prog 51 (.one) := (inferInstance : TOne Tryz.prog 51)
theorem tf52 : TFact Tryz.prog 52 (.one) := (inferInstance : TOne Tryz.prog 52)
theorem tf53 : TFact Tryz.prog 53 (.one) := (inferInstance : TOne Tryz.prog 53)
theorem tf54 : TFact Tryz.prog 54 (.one) := (inferInstance : TOne Tryz.prog 54)
theorem tf55 : TFact Tryz.prog 55 (.one) := (inferInstance : TOne Tryz.prog 55)
theorem tf56 : TFact Tryz.prog 56 (.one) := (inferInstance : TOne Tryz.prog 56)
theorem tf57 : TFact Tryz.prog 57 (.one) := (inferInstance : TOne Tryz.prog 57)
theorem tf58 : TFact Tryz.prog 58 (.one) := (inferInstance : TOne Tryz.prog 58)
theorem tf59 : TFact Tryz.prog 59 (.st 7 [(0, 1, false), (1, 6, true)] none) := ⟨inferInstance, fun i off n ag h => by
    match i, h with
    | 0, h => cases h; infer_instance
    | 1, h => cases h; infer_instance
    | j + 2, h => simp at h, inferInstance, fun k h => by
    cases h⟩
theorem tf60 : TFact Tryz.prog 60 (.st 7 [(0, 1, false), (1, 6, true)] none) := ⟨inferInstance, fun i off n ag h => by
    match i, h with
    | 0, h => cases h; infer_instance
    | 1, h => cases h; infer_instance
    | j + 2, h => simp at h, inferInstance, fun k h => by
    cases h⟩
theorem tf61 : TFact Tryz.prog 61 (.sl 66 3 40 [.int .i64 0, .int .i64 0, .slice none 0 0]) := ⟨inferInstance, inferInstance, inferInstance, inferInstance, inferInstance⟩
theorem tf62 : TFact Tryz.prog 62 (.one) := (inferInstance : TOne Tryz.prog 62)
theorem tf63 : TFact Tryz.prog 63 (.one) := (inferInstance : TOne Tryz.prog 63)
theorem tf64 : TFact Tryz.prog 64 (.sl 67 1 24 [.slice none 0 0]) := ⟨inferInstance, inferInstance, inferInstance, inferInstance, inferInstance⟩
theorem tf65 : TFact Tryz.prog 65 (.st 3 [(0, 1, false), (1, 1, false), (2, 1, false)] none) := ⟨inferInstance, fun i off n ag h => by
    match i, h with
    | 0, h => cases h; infer_instance
    | 1, h => cases h; infer_instance
    | 2, h => cases h; infer_instance
    | j + 3, h => simp at h, inferInstance, fun k h => by
    cases h⟩
theorem tf66 : TFact Tryz.prog 66 (.st 3 [(0, 1, false), (1, 1, false), (2, 1, false)] none) := ⟨inferInstance, fun i off n ag h => by
    match i, h with
    | 0, h => cases h; infer_instance
    | 1, h => cases h; infer_instance
    | 2, h => cases h; infer_instance
    | j + 3, h => simp at h, inferInstance, fun k h => by
    cases h⟩
theorem tf67 : TFact Tryz.prog 67 (.sl 4 1 1 [.bool false]) := ⟨inferInstance, inferInstance, inferInstance, inferInstance, inferInstance⟩
theorem tf68 : TFact Tryz.prog 68 (.one) := (inferInstance : TOne Tryz.prog 68)
theorem tf69 : TFact Tryz.prog 69 (.one) := (inferInstance : TOne Tryz.prog 69)
theorem tf70 : TFact Tryz.prog 70 (.one) := (inferInstance : TOne Tryz.prog 70)
theorem tf71 : TFact Tryz.prog 71 (.one) := (inferInstance : TOne Tryz.prog 71)
theorem tf72 : TFact Tryz.prog 72 (.one) := (inferInstance : TOne Tryz.prog 72)
theorem tf73 : TFact Tryz.prog 73 (.one) := (inferInstance : TOne Tryz.prog 73)
theorem tf74 : TFact Tryz.prog 74 (.one) := (inferInstance : TOne Tryz.prog 74)
theorem tf75 : TFact Tryz.prog 75 (.one) := (inferInstance : TOne Tryz.prog 75)
theorem tf76 : TFact Tryz.prog 76 (.one) := (inferInstance : TOne Tryz.prog 76)
theorem tf77 : TFact Tryz.prog 77 (.one) := (inferInstance : TOne Tryz.prog 77)
theorem tf78 : TFact Tryz.prog 78 (.one) := (inferInstance : TOne Tryz.prog 78)
theorem tf79 : TFact Tryz.prog 79 (.one) := (inferInstance : TOne Tryz.prog 79)
theorem tf80 : TFact Tryz.prog 80 (.one) := (inferInstance : TOne Tryz.prog 80)
theorem tf81 : TFact Tryz.prog 81 (.st 1 [(0, 1, false)] (some [0])) := ⟨inferInstance, fun i off n ag h => by
    match i, h with
    | 0, h => cases h; infer_instance
    | j + 1, h => simp at h, inferInstance, fun k h => by
    cases h; infer_instance⟩
theorem tf82 : TFact Tryz.prog 82 (.st 1 [(0, 1, false)] (some [0])) := ⟨inferInstance, fun i off n ag h => by
    match i, h with
    | 0, h => cases h; infer_instance
    | j + 1, h => simp at h, inferInstance, fun k h => by
    cases h; infer_instance⟩
theorem tf83 : TFact Tryz.prog 83 (.one) := (inferInstance : TOne Tryz.prog 83)
theorem tf84 : TFact Tryz.prog 84 (.one) := (inferInstance : TOne Tryz.prog 84)
theorem tf85 : TFact Tryz.prog 85 (.one) := (inferInstance : TOne Tryz.prog 85)
theorem tf86 : TFact Tryz.prog 86 (.one) := (inferInstance : TOne Tryz.prog 86)
theorem tf87 : TFact Tryz.prog 87 (.one) := (inferInstance : TOne Tryz.prog 87)
theorem tf88 : TFact Tryz.prog 88 (.one) := (inferInstance : TOne Tryz.prog 88)
theorem tf89 : TFact Tryz.prog 89 (.one) := (inferInstance : TOne Tryz.prog 89)
theorem tf90 : TFact Tryz.prog 90 (.one) := (inferInstance : TOne Tryz.prog 90)
theorem tf91 : TFact Tryz.prog 91 (.one) := (inferInstance : TOne Tryz.prog 91)
theorem tf92 : TFact Tryz.prog 92 (.one) := (inferInstance : TOne Tryz.prog 92)
theorem tf93 : TFact Tryz.prog 93 (.one) := (inferInstance : TOne Tryz.prog 93)
theorem tf94 : TFact Tryz.prog 94 (.one) := (inferInstance : TOne Tryz.prog 94)
theorem tf95 : TFact Tryz.prog 95 (.one) := (inferInstance : TOne Tryz.prog 95)
theorem tf96 : TFact Tryz.prog 96 (.one) := (inferInstance : TOne Tryz.prog 96)
theorem tf97 : TFact Tryz.prog 97 (.one) := (inferInstance : TOne Tryz.prog 97)
theorem tf98 : TFact Tryz.prog 98 (.one) := (inferInstance : TOne Tryz.prog 98)
theorem tf99 : TFact Tryz.prog 99 (.one) := (inferInstance : TOne Tryz.prog 99)
theorem tf100 : TFact Tryz.prog 100 (.one) := (inferInstance : TOne Tryz.prog 100)
theorem tf101 : TFact Tryz.prog 101 (.one) := (inferInstance : TOne Tryz.prog 101)
theorem tf102 : TFact Tryz.prog 102 (.one) := (inferInstance : TOne Tryz.prog 102)
theorem tf103 : TFact Tryz.prog 103 (.one) := (inferInstance : TOne Tryz.prog 103)
theorem tf104 : TFact Tryz.prog 104 (.one) := (inferInstance : TOne Tryz.prog 104)
theorem tf105 : TFact Tryz.prog 105 (.one) := (inferInstance : TOne Tryz.prog 105)
theorem tf106 : TFact Tryz.prog 106 (.one) := (inferInstance : TOne Tryz.prog 106)
theorem tf107 : TFact Tryz.prog 107 (.one) := (inferInstance : TOne Tryz.prog 107)
theorem tf108 : TFact Tryz.prog 108 (.one) := (inferInstance : TOne Tryz.prog 108)
theorem tf109 : TFact Tryz.prog 109 (.one) := (inferInstance : TOne Tryz.prog 109)
theorem tf110 : TFact Tryz.prog 110 (.one) := (inferInstance : TOne Tryz.prog 110)
theorem tf111 : TFact Tryz.prog 111 (.one) := (inferInstance : TOne Tryz.prog 111)
theorem tf113 : TFact Tryz.prog 113 (.int .u64) := ⟨inferInstance, inferInstance⟩
theorem tf114 : TFact Tryz.prog 114 (.one) := (inferInstance : TOne Tryz.prog 114)
theorem tf115 : TFact Tryz.prog 115 (.one) := (inferInstance : TOne Tryz.prog 115)
theorem tf116 : TFact Tryz.prog 116 (.sl 5 1 1 [.int .u8 0]) := ⟨inferInstance, inferInstance, inferInstance, inferInstance, inferInstance⟩
theorem tf117 : TFact Tryz.prog 117 (.one) := (inferInstance : TOne Tryz.prog 117)
theorem tf118 : TFact Tryz.prog 118 (.one) := (inferInstance : TOne Tryz.prog 118)
theorem tf119 : TFact Tryz.prog 119 (.one) := (inferInstance : TOne Tryz.prog 119)
theorem tf120 : TFact Tryz.prog 120 (.one) := (inferInstance : TOne Tryz.prog 120)
theorem tf121 : TFact Tryz.prog 121 (.one) := (inferInstance : TOne Tryz.prog 121)
theorem tf122 : TFact Tryz.prog 122 (.st 2 [(0, 1, false), (1, 1, false)] none) := ⟨inferInstance, fun i off n ag h => by
    match i, h with
    | 0, h => cases h; infer_instance
    | 1, h => cases h; infer_instance
    | j + 2, h => simp at h, inferInstance, fun k h => by
    cases h⟩
theorem tf123 : TFact Tryz.prog 123 (.st 2 [(0, 1, false), (1, 1, false)] none) := ⟨inferInstance, fun i off n ag h => by
    match i, h with
    | 0, h => cases h; infer_instance
    | 1, h => cases h; infer_instance
    | j + 2, h => simp at h, inferInstance, fun k h => by
    cases h⟩
theorem tf124 : TFact Tryz.prog 124 (.one) := (inferInstance : TOne Tryz.prog 124)
theorem tf125 : TFact Tryz.prog 125 (.ifc) := ⟨inferInstance, inferInstance⟩
theorem tf126 : TFact Tryz.prog 126 (.ifc) := ⟨inferInstance, inferInstance⟩
theorem tf127 : TFact Tryz.prog 127 (.one) := (inferInstance : TOne Tryz.prog 127)
theorem tf128 : TFact Tryz.prog 128 (.one) := (inferInstance : TOne Tryz.prog 128)
theorem tf129 : TFact Tryz.prog 129 (.one) := (inferInstance : TOne Tryz.prog 129)
theorem tf130 : TFact Tryz.prog 130 (.st 4 [(0, 1, false), (1, 1, false), (2, 1, false), (3, 1, false)] (some [2, 2, 2, 2])) := ⟨inferInstance, fun i off n ag h => by
    match i, h with
    | 0, h => cases h; infer_instance
    | 1, h => cases h; infer_instance
    | 2, h => cases h; infer_instance
    | 3, h => cases h; infer_instance
    | j + 4, h => simp at h, inferInstance, fun k h => by
    cases h; infer_instance⟩
theorem tf131 : TFact Tryz.prog 131 (.st 4 [(0, 1, false), (1, 1, false), (2, 1, false), (3, 1, false)] (some [2, 2, 2, 2])) := ⟨inferInstance, fun i off n ag h => by
    match i, h with
    | 0, h => cases h; infer_instance
    | 1, h => cases h; infer_instance
    | 2, h => cases h; infer_instance
    | 3, h => cases h; infer_instance
    | j + 4, h => simp at h, inferInstance, fun k h => by
    cases h; infer_instance⟩
theorem tf132 : TFact Tryz.prog 132 (.one) := (inferInstance : TOne Tryz.prog 132)
theorem tf133 : TFact Tryz.prog 133 (.one) := (inferInstance : TOne Tryz.prog 133)
theorem tf134 : TFact Tryz.prog 134 (.one) := (inferInstance : TOne Tryz.prog 134)
theorem tf135 : TFact Tryz.prog 135 (.one) := (inferInstance : TOne Tryz.prog 135)
theorem tf136 : TFact Tryz.prog 136 (.one) := (inferInstance : TOne Tryz.prog 136)
theorem tf139 : TFact Tryz.prog 139 (.one) := (inferInstance : TOne Tryz.prog 139)
theorem tf140 : TFact Tryz.prog 140 (.one) := (inferInstance : TOne Tryz.prog 140)
theorem tf141 : TFact Tryz.prog 141 (.one) := (inferInstance : TOne Tryz.prog 141)
theorem tf142 : TFact Tryz.prog 142 (.one) := (inferInstance : TOne Tryz.prog 142)
theorem tf143 : TFact Tryz.prog 143 (.one) := (inferInstance : TOne Tryz.prog 143)
theorem tf144 : TFact Tryz.prog 144 (.one) := (inferInstance : TOne Tryz.prog 144)
theorem tf145 : TFact Tryz.prog 145 (.int .u64) := ⟨inferInstance, inferInstance⟩
theorem tf146 : TFact Tryz.prog 146 (.one) := (inferInstance : TOne Tryz.prog 146)
theorem tf148 : TFact Tryz.prog 148 (.int .u32) := ⟨inferInstance, inferInstance⟩
theorem tf150 : TFact Tryz.prog 150 (.one) := (inferInstance : TOne Tryz.prog 150)
theorem tf156 : TFact Tryz.prog 156 (.st 2 [(0, 1, false), (1, 1, false)] (some [0, 0])) := ⟨inferInstance, fun i off n ag h => by
    match i, h with
    | 0, h => cases h; infer_instance
    | 1, h => cases h; infer_instance
    | j + 2, h => simp at h, inferInstance, fun k h => by
    cases h; infer_instance⟩
theorem tf157 : TFact Tryz.prog 157 (.st 2 [(0, 1, false), (1, 1, false)] (some [0, 0])) := ⟨inferInstance, fun i off n ag h => by
    match i, h with
    | 0, h => cases h; infer_instance
    | 1, h => cases h; infer_instance
    | j + 2, h => simp at h, inferInstance, fun k h => by
    cases h; infer_instance⟩
theorem tf162 : TFact Tryz.prog 162 (.ifc) := ⟨inferInstance, inferInstance⟩
theorem tf163 : TFact Tryz.prog 163 (.ifc) := ⟨inferInstance, inferInstance⟩
theorem tf164 : TFact Tryz.prog 164 (.st 5 [(0, 3, true), (3, 1, false), (4, 1, false)] none) := ⟨inferInstance, fun i off n ag h => by
    match i, h with
    | 0, h => cases h; infer_instance
    | 1, h => cases h; infer_instance
    | 2, h => cases h; infer_instance
    | j + 3, h => simp at h, inferInstance, fun k h => by
    cases h⟩
theorem tf165 : TFact Tryz.prog 165 (.st 5 [(0, 3, true), (3, 1, false), (4, 1, false)] none) := ⟨inferInstance, fun i off n ag h => by
    match i, h with
    | 0, h => cases h; infer_instance
    | 1, h => cases h; infer_instance
    | 2, h => cases h; infer_instance
    | j + 3, h => simp at h, inferInstance, fun k h => by
    cases h⟩
theorem tf166 : TFact Tryz.prog 166 (.one) := (inferInstance : TOne Tryz.prog 166)
theorem tf167 : TFact Tryz.prog 167 (.one) := (inferInstance : TOne Tryz.prog 167)
theorem tf168 : TFact Tryz.prog 168 (.st 4 [(0, 1, false), (1, 1, false), (2, 1, false), (3, 1, false)] none) := ⟨inferInstance, fun i off n ag h => by
    match i, h with
    | 0, h => cases h; infer_instance
    | 1, h => cases h; infer_instance
    | 2, h => cases h; infer_instance
    | 3, h => cases h; infer_instance
    | j + 4, h => simp at h, inferInstance, fun k h => by
    cases h⟩
theorem tf169 : TFact Tryz.prog 169 (.st 4 [(0, 1, false), (1, 1, false), (2, 1, false), (3, 1, false)] none) := ⟨inferInstance, fun i off n ag h => by
    match i, h with
    | 0, h => cases h; infer_instance
    | 1, h => cases h; infer_instance
    | 2, h => cases h; infer_instance
    | 3, h => cases h; infer_instance
    | j + 4, h => simp at h, inferInstance, fun k h => by
    cases h⟩
theorem tf170 : TFact Tryz.prog 170 (.one) := (inferInstance : TOne Tryz.prog 170)
theorem tf171 : TFact Tryz.prog 171 (.one) := (inferInstance : TOne Tryz.prog 171)
theorem tf172 : TFact Tryz.prog 172 (.st 4 [(0, 1, false), (1, 1, false), (2, 1, false), (3, 1, false)] none) := ⟨inferInstance, fun i off n ag h => by
    match i, h with
    | 0, h => cases h; infer_instance
    | 1, h => cases h; infer_instance
    | 2, h => cases h; infer_instance
    | 3, h => cases h; infer_instance
    | j + 4, h => simp at h, inferInstance, fun k h => by
    cases h⟩
theorem tf173 : TFact Tryz.prog 173 (.one) := (inferInstance : TOne Tryz.prog 173)
theorem tf174 : TFact Tryz.prog 174 (.one) := (inferInstance : TOne Tryz.prog 174)
theorem tf175 : TFact Tryz.prog 175 (.one) := (inferInstance : TOne Tryz.prog 175)
theorem tf176 : TFact Tryz.prog 176 (.one) := (inferInstance : TOne Tryz.prog 176)
theorem tf177 : TFact Tryz.prog 177 (.one) := (inferInstance : TOne Tryz.prog 177)
theorem tf178 : TFact Tryz.prog 178 (.one) := (inferInstance : TOne Tryz.prog 178)
theorem tf179 : TFact Tryz.prog 179 (.one) := (inferInstance : TOne Tryz.prog 179)
theorem tf180 : TFact Tryz.prog 180 (.one) := (inferInstance : TOne Tryz.prog 180)
theorem tf181 : TFact Tryz.prog 181 (.one) := (inferInstance : TOne Tryz.prog 181)
theorem tf182 : TFact Tryz.prog 182 (.one) := (inferInstance : TOne Tryz.prog 182)
theorem tf183 : TFact Tryz.prog 183 (.one) := (inferInstance : TOne Tryz.prog 183)
theorem tf184 : TFact Tryz.prog 184 (.one) := (inferInstance : TOne Tryz.prog 184)
theorem tf185 : TFact Tryz.prog 185 (.one) := (inferInstance : TOne Tryz.prog 185)
theorem tf186 : TFact Tryz.prog 186 (.one) := (inferInstance : TOne Tryz.prog 186)
theorem tf187 : TFact Tryz.prog 187 (.one) := (inferInstance : TOne Tryz.prog 187)
theorem tf188 : TFact Tryz.prog 188 (.one) := (inferInstance : TOne Tryz.prog 188)
theorem tf189 : TFact Tryz.prog 189 (.one) := (inferInstance : TOne Tryz.prog 189)
theorem tf190 : TFact Tryz.prog 190 (.one) := (inferInstance : TOne Tryz.prog 190)
theorem tf191 : TFact Tryz.prog 191 (.one) := (inferInstance : TOne Tryz.prog 191)
theorem tf194 : TFact Tryz.prog 194 (.one) := (inferInstance : TOne Tryz.prog 194)
theorem tf195 : TFact Tryz.prog 195 (.one) := (inferInstance : TOne Tryz.prog 195)
theorem tf196 : TFact Tryz.prog 196 (.one) := (inferInstance : TOne Tryz.prog 196)
theorem tf197 : TFact Tryz.prog 197 (.one) := (inferInstance : TOne Tryz.prog 197)
theorem tf198 : TFact Tryz.prog 198 (.one) := (inferInstance : TOne Tryz.prog 198)
theorem tf199 : TFact Tryz.prog 199 (.one) := (inferInstance : TOne Tryz.prog 199)
theorem tf200 : TFact Tryz.prog 200 (.one) := (inferInstance : TOne Tryz.prog 200)
theorem tf201 : TFact Tryz.prog 201 (.one) := (inferInstance : TOne Tryz.prog 201)
theorem tf204 : TFact Tryz.prog 204 (.one) := (inferInstance : TOne Tryz.prog 204)
theorem tf206 : TFact Tryz.prog 206 (.st 257 [(0, 256, true), (256, 1, false)] none) := ⟨inferInstance, fun i off n ag h => by
    match i, h with
    | 0, h => cases h; infer_instance
    | 1, h => cases h; infer_instance
    | j + 2, h => simp at h, inferInstance, fun k h => by
    cases h⟩
theorem tf207 : TFact Tryz.prog 207 (.st 257 [(0, 256, true), (256, 1, false)] none) := ⟨inferInstance, fun i off n ag h => by
    match i, h with
    | 0, h => cases h; infer_instance
    | 1, h => cases h; infer_instance
    | j + 2, h => simp at h, inferInstance, fun k h => by
    cases h⟩
theorem tf208 : TFact Tryz.prog 208 (.one) := (inferInstance : TOne Tryz.prog 208)
theorem tf209 : TFact Tryz.prog 209 (.st 2 [(0, 1, false), (1, 1, false)] (some [0, 0])) := ⟨inferInstance, fun i off n ag h => by
    match i, h with
    | 0, h => cases h; infer_instance
    | 1, h => cases h; infer_instance
    | j + 2, h => simp at h, inferInstance, fun k h => by
    cases h; infer_instance⟩
theorem tf210 : TFact Tryz.prog 210 (.st 2 [(0, 1, false), (1, 1, false)] (some [0, 0])) := ⟨inferInstance, fun i off n ag h => by
    match i, h with
    | 0, h => cases h; infer_instance
    | 1, h => cases h; infer_instance
    | j + 2, h => simp at h, inferInstance, fun k h => by
    cases h; infer_instance⟩
theorem tf212 : TFact Tryz.prog 212 (.one) := (inferInstance : TOne Tryz.prog 212)
theorem tf213 : TFact Tryz.prog 213 (.one) := (inferInstance : TOne Tryz.prog 213)
theorem tf214 : TFact Tryz.prog 214 (.one) := (inferInstance : TOne Tryz.prog 214)
theorem tf215 : TFact Tryz.prog 215 (.one) := (inferInstance : TOne Tryz.prog 215)
theorem tf216 : TFact Tryz.prog 216 (.one) := (inferInstance : TOne Tryz.prog 216)
theorem tf217 : TFact Tryz.prog 217 (.one) := (inferInstance : TOne Tryz.prog 217)
theorem tf218 : TFact Tryz.prog 218 (.st 2 [(0, 1, false), (1, 1, false)] none) := ⟨inferInstance, fun i off n ag h => by
    match i, h with
    | 0, h => cases h; infer_instance
    | 1, h => cases h; infer_instance
    | j + 2, h => simp at h, inferInstance, fun k h => by
    cases h⟩
theorem tf219 : TFact Tryz.prog 219 (.st 2 [(0, 1, false), (1, 1, false)] none) := ⟨inferInstance, fun i off n ag h => by
    match i, h with
    | 0, h => cases h; infer_instance
    | 1, h => cases h; infer_instance
    | j + 2, h => simp at h, inferInstance, fun k h => by
    cases h⟩
theorem tf220 : TFact Tryz.prog 220 (.one) := (inferInstance : TOne Tryz.prog 220)
theorem tf221 : TFact Tryz.prog 221 (.sl 220 1 8 [.pointer none]) := ⟨inferInstance, inferInstance, inferInstance, inferInstance, inferInstance⟩
theorem tf222 : TFact Tryz.prog 222 (.st 5 [(0, 1, false), (1, 1, false), (2, 1, false), (3, 1, false), (4, 1, false)] none) := ⟨inferInstance, fun i off n ag h => by
    match i, h with
    | 0, h => cases h; infer_instance
    | 1, h => cases h; infer_instance
    | 2, h => cases h; infer_instance
    | 3, h => cases h; infer_instance
    | 4, h => cases h; infer_instance
    | j + 5, h => simp at h, inferInstance, fun k h => by
    cases h⟩
theorem tf223 : TFact Tryz.prog 223 (.st 5 [(0, 1, false), (1, 1, false), (2, 1, false), (3, 1, false), (4, 1, false)] none) := ⟨inferInstance, fun i off n ag h => by
    match i, h with
    | 0, h => cases h; infer_instance
    | 1, h => cases h; infer_instance
    | 2, h => cases h; infer_instance
    | 3, h => cases h; infer_instance
    | 4, h => cases h; infer_instance
    | j + 5, h => simp at h, inferInstance, fun k h => by
    cases h⟩
theorem tf224 : TFact Tryz.prog 224 (.st 262 [(0, 5, true), (5, 1, false), (6, 256, true)] none) := ⟨inferInstance, fun i off n ag h => by
    match i, h with
    | 0, h => cases h; infer_instance
    | 1, h => cases h; infer_instance
    | 2, h => cases h; infer_instance
    | j + 3, h => simp at h, inferInstance, fun k h => by
    cases h⟩
theorem tf225 : TFact Tryz.prog 225 (.st 262 [(0, 5, true), (5, 1, false), (6, 256, true)] none) := ⟨inferInstance, fun i off n ag h => by
    match i, h with
    | 0, h => cases h; infer_instance
    | 1, h => cases h; infer_instance
    | 2, h => cases h; infer_instance
    | j + 3, h => simp at h, inferInstance, fun k h => by
    cases h⟩
theorem tf226 : TFact Tryz.prog 226 (.one) := (inferInstance : TOne Tryz.prog 226)
theorem tf227 : TFact Tryz.prog 227 (.one) := (inferInstance : TOne Tryz.prog 227)
theorem tf228 : TFact Tryz.prog 228 (.one) := (inferInstance : TOne Tryz.prog 228)
theorem tf229 : TFact Tryz.prog 229 (.one) := (inferInstance : TOne Tryz.prog 229)
theorem tf230 : TFact Tryz.prog 230 (.one) := (inferInstance : TOne Tryz.prog 230)
theorem tf231 : TFact Tryz.prog 231 (.one) := (inferInstance : TOne Tryz.prog 231)
theorem tf232 : TFact Tryz.prog 232 (.one) := (inferInstance : TOne Tryz.prog 232)
theorem tf233 : TFact Tryz.prog 233 (.one) := (inferInstance : TOne Tryz.prog 233)
theorem tf235 : TFact Tryz.prog 235 (.st 258 [(0, 1, false), (1, 256, true), (257, 1, false)] none) := ⟨inferInstance, fun i off n ag h => by
    match i, h with
    | 0, h => cases h; infer_instance
    | 1, h => cases h; infer_instance
    | 2, h => cases h; infer_instance
    | j + 3, h => simp at h, inferInstance, fun k h => by
    cases h⟩
theorem tf236 : TFact Tryz.prog 236 (.st 258 [(0, 1, false), (1, 256, true), (257, 1, false)] none) := ⟨inferInstance, fun i off n ag h => by
    match i, h with
    | 0, h => cases h; infer_instance
    | 1, h => cases h; infer_instance
    | 2, h => cases h; infer_instance
    | j + 3, h => simp at h, inferInstance, fun k h => by
    cases h⟩
theorem tf237 : TFact Tryz.prog 237 (.int .i64) := ⟨inferInstance, inferInstance⟩
theorem tf238 : TFact Tryz.prog 238 (.one) := (inferInstance : TOne Tryz.prog 238)
theorem tf239 : TFact Tryz.prog 239 (.one) := (inferInstance : TOne Tryz.prog 239)
theorem tf240 : TFact Tryz.prog 240 (.one) := (inferInstance : TOne Tryz.prog 240)
theorem tf241 : TFact Tryz.prog 241 (.one) := (inferInstance : TOne Tryz.prog 241)
theorem tf242 : TFact Tryz.prog 242 (.one) := (inferInstance : TOne Tryz.prog 242)
theorem tf243 : TFact Tryz.prog 243 (.one) := (inferInstance : TOne Tryz.prog 243)
theorem tf244 : TFact Tryz.prog 244 (.one) := (inferInstance : TOne Tryz.prog 244)
theorem tf245 : TFact Tryz.prog 245 (.one) := (inferInstance : TOne Tryz.prog 245)
theorem tf246 : TFact Tryz.prog 246 (.one) := (inferInstance : TOne Tryz.prog 246)
theorem tf247 : TFact Tryz.prog 247 (.one) := (inferInstance : TOne Tryz.prog 247)
theorem tf248 : TFact Tryz.prog 248 (.st 3 [(0, 1, false), (1, 1, false), (2, 1, false)] none) := ⟨inferInstance, fun i off n ag h => by
    match i, h with
    | 0, h => cases h; infer_instance
    | 1, h => cases h; infer_instance
    | 2, h => cases h; infer_instance
    | j + 3, h => simp at h, inferInstance, fun k h => by
    cases h⟩
theorem tf249 : TFact Tryz.prog 249 (.st 3 [(0, 1, false), (1, 1, false), (2, 1, false)] none) := ⟨inferInstance, fun i off n ag h => by
    match i, h with
    | 0, h => cases h; infer_instance
    | 1, h => cases h; infer_instance
    | 2, h => cases h; infer_instance
    | j + 3, h => simp at h, inferInstance, fun k h => by
    cases h⟩
theorem tf250 : TFact Tryz.prog 250 (.one) := (inferInstance : TOne Tryz.prog 250)
theorem tf251 : TFact Tryz.prog 251 (.one) := (inferInstance : TOne Tryz.prog 251)
theorem tf252 : TFact Tryz.prog 252 (.one) := (inferInstance : TOne Tryz.prog 252)
theorem tf253 : TFact Tryz.prog 253 (.st 1 [(0, 1, false)] (some [1])) := ⟨inferInstance, fun i off n ag h => by
    match i, h with
    | 0, h => cases h; infer_instance
    | j + 1, h => simp at h, inferInstance, fun k h => by
    cases h; infer_instance⟩
theorem tf254 : TFact Tryz.prog 254 (.st 1 [(0, 1, false)] (some [1])) := ⟨inferInstance, fun i off n ag h => by
    match i, h with
    | 0, h => cases h; infer_instance
    | j + 1, h => simp at h, inferInstance, fun k h => by
    cases h; infer_instance⟩
theorem tf255 : TFact Tryz.prog 255 (.st 4 [(0, 1, false), (1, 1, false), (2, 1, false), (3, 1, false)] none) := ⟨inferInstance, fun i off n ag h => by
    match i, h with
    | 0, h => cases h; infer_instance
    | 1, h => cases h; infer_instance
    | 2, h => cases h; infer_instance
    | 3, h => cases h; infer_instance
    | j + 4, h => simp at h, inferInstance, fun k h => by
    cases h⟩
theorem tf256 : TFact Tryz.prog 256 (.st 4 [(0, 1, false), (1, 1, false), (2, 1, false), (3, 1, false)] none) := ⟨inferInstance, fun i off n ag h => by
    match i, h with
    | 0, h => cases h; infer_instance
    | 1, h => cases h; infer_instance
    | 2, h => cases h; infer_instance
    | 3, h => cases h; infer_instance
    | j + 4, h => simp at h, inferInstance, fun k h => by
    cases h⟩
theorem tf260 : TFact Tryz.prog 260 (.one) := (inferInstance : TOne Tryz.prog 260)
theorem tf261 : TFact Tryz.prog 261 (.int .u8) := ⟨inferInstance, inferInstance⟩
theorem tf262 : TFact Tryz.prog 262 (.int .u8) := ⟨inferInstance, inferInstance⟩
theorem tf263 : TFact Tryz.prog 263 (.one) := (inferInstance : TOne Tryz.prog 263)
theorem tf264 : TFact Tryz.prog 264 (.int .i32) := ⟨inferInstance, inferInstance⟩
theorem tf265 : TFact Tryz.prog 265 (.int .i32) := ⟨inferInstance, inferInstance⟩
theorem tf266 : TFact Tryz.prog 266 (.st 11 [(0, 1, false), (1, 1, false), (2, 1, false), (3, 1, false), (4, 1, false), (5, 1, false), (6, 1, false), (7, 1, false), (8, 1, false), (9, 1, false), (10, 1, false)] none) := ⟨inferInstance, fun i off n ag h => by
    match i, h with
    | 0, h => cases h; infer_instance
    | 1, h => cases h; infer_instance
    | 2, h => cases h; infer_instance
    | 3, h => cases h; infer_instance
    | 4, h => cases h; infer_instance
    | 5, h => cases h; infer_instance
    | 6, h => cases h; infer_instance
    | 7, h => cases h; infer_instance
    | 8, h => cases h; infer_instance
    | 9, h => cases h; infer_instance
    | 10, h => cases h; infer_instance
    | j + 11, h => simp at h, inferInstance, fun k h => by
    cases h⟩
theorem tf267 : TFact Tryz.prog 267 (.st 11 [(0, 1, false), (1, 1, false), (2, 1, false), (3, 1, false), (4, 1, false), (5, 1, false), (6, 1, false), (7, 1, false), (8, 1, false), (9, 1, false), (10, 1, false)] none) := ⟨inferInstance, fun i off n ag h => by
    match i, h with
    | 0, h => cases h; infer_instance
    | 1, h => cases h; infer_instance
    | 2, h => cases h; infer_instance
    | 3, h => cases h; infer_instance
    | 4, h => cases h; infer_instance
    | 5, h => cases h; infer_instance
    | 6, h => cases h; infer_instance
    | 7, h => cases h; infer_instance
    | 8, h => cases h; infer_instance
    | 9, h => cases h; infer_instance
    | 10, h => cases h; infer_instance
    | j + 11, h => simp at h, inferInstance, fun k h => by
    cases h⟩
theorem tf268 : TFact Tryz.prog 268 (.one) := (inferInstance : TOne Tryz.prog 268)
theorem tf269 : TFact Tryz.prog 269 (.sl 5 1 1 [.int .u8 0]) := ⟨inferInstance, inferInstance, inferInstance, inferInstance, inferInstance⟩
theorem tf270 : TFact Tryz.prog 270 (.one) := (inferInstance : TOne Tryz.prog 270)
theorem tf271 : TFact Tryz.prog 271 (.ifc) := ⟨inferInstance, inferInstance⟩
theorem tf272 : TFact Tryz.prog 272 (.ifc) := ⟨inferInstance, inferInstance⟩
theorem tf273 : TFact Tryz.prog 273 (.ifc) := ⟨inferInstance, inferInstance⟩
theorem tf274 : TFact Tryz.prog 274 (.ifc) := ⟨inferInstance, inferInstance⟩
theorem tf275 : TFact Tryz.prog 275 (.one) := (inferInstance : TOne Tryz.prog 275)
theorem tf276 : TFact Tryz.prog 276 (.one) := (inferInstance : TOne Tryz.prog 276)
theorem tf277 : TFact Tryz.prog 277 (.one) := (inferInstance : TOne Tryz.prog 277)
theorem tf278 : TFact Tryz.prog 278 (.one) := (inferInstance : TOne Tryz.prog 278)
theorem tf279 : TFact Tryz.prog 279 (.st 1 [(0, 1, false)] none) := ⟨inferInstance, fun i off n ag h => by
    match i, h with
    | 0, h => cases h; infer_instance
    | j + 1, h => simp at h, inferInstance, fun k h => by
    cases h⟩
theorem tf280 : TFact Tryz.prog 280 (.st 1 [(0, 1, false)] none) := ⟨inferInstance, fun i off n ag h => by
    match i, h with
    | 0, h => cases h; infer_instance
    | j + 1, h => simp at h, inferInstance, fun k h => by
    cases h⟩
theorem tf281 : TFact Tryz.prog 281 (.one) := (inferInstance : TOne Tryz.prog 281)
def TAB : List (Nat × TI) := [(0, .one), (1, .one), (2, .int .i64), (3, .int .i64), (4, .bool), (5, .int .u8), (6, .int .u8), (7, .st 4 [(0, 1, false), (1, 1, false), (2, 1, false), (3, 1, false)] (some [0, 0, 2, 0])), (8, .st 4 [(0, 1, false), (1, 1, false), (2, 1, false), (3, 1, false)] (some [0, 0, 2, 0])), (9, .str), (10, .str), (11, .str), (12, .int .u64), (13, .st 2 [(0, 1, false), (1, 1, false)] none), (14, .st 2 [(0, 1, false), (1, 1, false)] none), (15, .one), (16, .one), (17, .one), (18, .st 1 [(0, 1, false)] none), (19, .st 1 [(0, 1, false)] none), (20, .ifc), (21, .int .i32), (22, .sl 3 1 8 [.int .i64 0]), (23, .sl 26 6 88 [.int .i64 0, .slice none 0 0, .string ⟨#[]⟩, .slice none 0 0, .int .i64 0, .int .i64 0]), (24, .sl 9 1 16 [.string ⟨#[]⟩]), (25, .st 6 [(0, 1, false), (1, 1, false), (2, 1, false), (3, 1, false), (4, 1, false), (5, 1, false)] none), (26, .st 6 [(0, 1, false), (1, 1, false), (2, 1, false), (3, 1, false), (4, 1, false), (5, 1, false)] none), (27, .int .i64), (28, .one), (29, .one), (30, .one), (31, .one), (32, .one), (33, .one), (34, .one), (35, .one), (36, .sl 60 7 104 [.string ⟨#[]⟩, .int .i64 0, .slice none 0 0, .string ⟨#[]⟩, .slice none 0 0, .int .i64 0, .int .i64 0]), (37, .one), (38, .one), (39, .one), (40, .one), (41, .one), (42, .one), (43, .one), (44, .one), (45, .one), (46, .one), (47, .one), (48, .one), (49, .one), (50, .one), (51, .one), (52, .one), (53, .one), (54, .one), (55, .one), (56, .one), (57, .one), (58, .one), (59, .st 7 [(0, 1, false), (1, 6, true)] none), (60, .st 7 [(0, 1, false), (1, 6, true)] none), (61, .sl 66 3 40 [.int .i64 0, .int .i64 0, .slice none 0 0]), (62, .one), (63, .one), (64, .sl 67 1 24 [.slice none 0 0]), (65, .st 3 [(0, 1, false), (1, 1, false), (2, 1, false)] none), (66, .st 3 [(0, 1, false), (1, 1, false), (2, 1, false)] none), (67, .sl 4 1 1 [.bool false]), (68, .one), (69, .one), (70, .one), (71, .one), (72, .one), (73, .one), (74, .one), (75, .one), (76, .one), (77, .one), (78, .one), (79, .one), (80, .one), (81, .st 1 [(0, 1, false)] (some [0])), (82, .st 1 [(0, 1, false)] (some [0])), (83, .one), (84, .one), (85, .one), (86, .one), (87, .one), (88, .one), (89, .one), (90, .one), (91, .one), (92, .one), (93, .one), (94, .one), (95, .one), (96, .one), (97, .one), (98, .one), (99, .one), (100, .one), (101, .one), (102, .one), (103, .one), (104, .one), (105, .one), (106, .one), (107, .one), (108, .one), (109, .one), (110, .one), (111, .one), (113, .int .u64), (114, .one), (115, .one), (116, .sl 5 1 1 [.int .u8 0]), (117, .one), (118, .one), (119, .one), (120, .one), (121, .one), (122, .st 2 [(0, 1, false), (1, 1, false)] none), (123, .st 2 [(0, 1, false), (1, 1, false)] none), (124, .one), (125, .ifc), (126, .ifc), (127, .one), (128, .one), (129, .one), (130, .st 4 [(0, 1, false), (1, 1, false), (2, 1, false), (3, 1, false)] (some [2, 2, 2, 2])), (131, .st 4 [(0, 1, false), (1, 1, false), (2, 1, false), (3, 1, false)] (some [2, 2, 2, 2])), (132, .one), (133, .one), (134, .one), (135, .one), (136, .one), (139, .one), (140, .one), (141, .one), (142, .one), (143, .one), (144, .one), (145, .int .u64), (146, .one), (148, .int .u32), (150, .one), (156, .st 2 [(0, 1, false), (1, 1, false)] (some [0, 0])), (157, .st 2 [(0, 1, false), (1, 1, false)] (some [0, 0])), (162, .ifc), (163, .ifc), (164, .st 5 [(0, 3, true), (3, 1, false), (4, 1, false)] none), (165, .st 5 [(0, 3, true), (3, 1, false), (4, 1, false)] none), (166, .one), (167, .one), (168, .st 4 [(0, 1, false), (1, 1, false), (2, 1, false), (3, 1, false)] none), (169, .st 4 [(0, 1, false), (1, 1, false), (2, 1, false), (3, 1, false)] none), (170, .one), (171, .one), (172, .st 4 [(0, 1, false), (1, 1, false), (2, 1, false), (3, 1, false)] none), (173, .one), (174, .one), (175, .one), (176, .one), (177, .one), (178, .one), (179, .one), (180, .one), (181, .one), (182, .one), (183, .one), (184, .one), (185, .one), (186, .one), (187, .one), (188, .one), (189, .one), (190, .one), (191, .one), (194, .one), (195, .one), (196, .one), (197, .one), (198, .one), (199, .one), (200, .one), (201, .one), (204, .one), (206, .st 257 [(0, 256, true), (256, 1, false)] none), (207, .st 257 [(0, 256, true), (256, 1, false)] none), (208, .one), (209, .st 2 [(0, 1, false), (1, 1, false)] (some [0, 0])), (210, .st 2 [(0, 1, false), (1, 1, false)] (some [0, 0])), (212, .one), (213, .one), (214, .one), (215, .one), (216, .one), (217, .one), (218, .st 2 [(0, 1, false), (1, 1, false)] none), (219, .st 2 [(0, 1, false), (1, 1, false)] none), (220, .one), (221, .sl 220 1 8 [.pointer none]), (222, .st 5 [(0, 1, false), (1, 1, false), (2, 1, false), (3, 1, false), (4, 1, false)] none), (223, .st 5 [(0, 1, false), (1, 1, false), (2, 1, false), (3, 1, false), (4, 1, false)] none), (224, .st 262 [(0, 5, true), (5, 1, false), (6, 256, true)] none), (225, .st 262 [(0, 5, true), (5, 1, false), (6, 256, true)] none), (226, .one), (227, .one), (228, .one), (229, .one), (230, .one), (231, .one), (232, .one), (233, .one), (235, .st 258 [(0, 1, false), (1, 256, true), (257, 1, false)] none), (236, .st 258 [(0, 1, false), (1, 256, true), (257, 1, false)] none), (237, .int .i64), (238, .one), (239, .one), (240, .one), (241, .one), (242, .one), (243, .one), (244, .one), (245, .one), (246, .one), (247, .one), (248, .st 3 [(0, 1, false), (1, 1, false), (2, 1, false)] none), (249, .st 3 [(0, 1, false), (1, 1, false), (2, 1, false)] none), (250, .one), (251, .one), (252, .one), (253, .st 1 [(0, 1, false)] (some [1])), (254, .st 1 [(0, 1, false)] (some [1])), (255, .st 4 [(0, 1, false), (1, 1, false), (2, 1, false), (3, 1, false)] none), (256, .st 4 [(0, 1, false), (1, 1, false), (2, 1, false), (3, 1, false)] none), (260, .one), (261, .int .u8), (262, .int .u8), (263, .one), (264, .int .i32), (265, .int .i32), (266, .st 11 [(0, 1, false), (1, 1, false), (2, 1, false), (3, 1, false), (4, 1, false), (5, 1, false), (6, 1, false), (7, 1, false), (8, 1, false), (9, 1, false), (10, 1, false)] none), (267, .st 11 [(0, 1, false), (1, 1, false), (2, 1, false), (3, 1, false), (4, 1, false), (5, 1, false), (6, 1, false), (7, 1, false), (8, 1, false), (9, 1, false), (10, 1, false)] none), (268, .one), (269, .sl 5 1 1 [.int .u8 0]), (270, .one), (271, .ifc), (272, .ifc), (273, .ifc), (274, .ifc), (275, .one), (276, .one), (277, .one), (278, .one), (279, .st 1 [(0, 1, false)] none), (280, .st 1 [(0, 1, false)] none), (281, .one)]
def ZAB : List (Nat × List Value) := [(1, [.nilFunc]), (2, [.int .i64 0]), (3, [.int .i64 0]), (4, [.bool false]), (5, [.int .u8 0]), (6, [.int .u8 0]), (7, [.int .i64 0, .int .i64 0, .bool false, .int .u8 0]), (8, [.int .i64 0, .int .i64 0, .bool false, .int .u8 0]), (9, [.string ⟨#[]⟩]), (10, [.string ⟨#[]⟩]), (11, [.string ⟨#[]⟩]), (12, [.int .u64 0]), (13, [.string ⟨#[]⟩, .int .u64 0]), (14, [.string ⟨#[]⟩, .int .u64 0]), (15, [.pointer none]), (16, [.pointer none]), (17, [.pointer none]), (18, [.pointer none]), (19, [.pointer none]), (20, [.nilIface]), (21, [.int .i32 0]), (22, [.slice none 0 0]), (23, [.slice none 0 0]), (24, [.slice none 0 0]), (25, [.int .i64 0, .slice none 0 0, .string ⟨#[]⟩, .slice none 0 0, .int .i64 0, .int .i64 0]), (26, [.int .i64 0, .slice none 0 0, .string ⟨#[]⟩, .slice none 0 0, .int .i64 0, .int .i64 0]), (27, [.int .i64 0]), (29, [.nilFunc]), (30, [.nilFunc]), (31, [.nilFunc]), (32, [.nilFunc]), (33, [.nilFunc]), (34, [.nilFunc]), (35, [.nilFunc]), (36, [.slice none 0 0]), (38, [.nilFunc]), (39, [.nilFunc]), (40, [.nilFunc]), (42, [.nilFunc]), (44, [.nilFunc]), (45, [.nilFunc]), (46, [.nilFunc]), (47, [.nilFunc]), (48, [.nilFunc]), (49, [.nilFunc]), (50, [.nilFunc]), (51, [.nilFunc]), (52, [.nilFunc]), (54, [.nilFunc]), (55, [.nilFunc]), (56, [.nilFunc]), (57, [.nilFunc]), (58, [.nilFunc]), (59, [.string ⟨#[]⟩, .int .i64 0, .slice none 0 0, .string ⟨#[]⟩, .slice none 0 0, .int .i64 0, .int .i64 0]), (60, [.string ⟨#[]⟩, .int .i64 0, .slice none 0 0, .string ⟨#[]⟩, .slice none 0 0, .int .i64 0, .int .i64 0]), (61, [.slice none 0 0]), (63, [.nilFunc]), (64, [.slice none 0 0]), (65, [.int .i64 0, .int .i64 0, .slice none 0 0]), (66, [.int .i64 0, .int .i64 0, .slice none 0 0]), (67, [.slice none 0 0]), (68, [.nilFunc]), (69, [.nilFunc]), (70, [.nilFunc]), (71, [.nilFunc]), (72, [.nilFunc]), (73, [.nilFunc]), (74, [.nilFunc]), (75, [.nilFunc]), (76, [.nilFunc]), (77, [.nilFunc]), (78, [.nilFunc]), (79, [.nilFunc]), (80, [.pointer none]), (81, [.int .i64 0]), (82, [.int .i64 0]), (83, [.nilFunc]), (85, [.nilFunc]), (86, [.nilFunc]), (87, [.nilFunc]), (89, [.nilFunc]), (90, [.nilFunc]), (91, [.nilFunc]), (92, [.nilFunc]), (93, [.nilFunc]), (94, [.nilFunc]), (95, [.nilFunc]), (96, [.nilFunc]), (97, [.nilFunc]), (98, [.nilFunc]), (99, [.nilFunc]), (100, [.nilFunc]), (101, [.nilFunc]), (102, [.nilFunc]), (103, [.nilFunc]), (104, [.nilFunc]), (105, [.nilFunc]), (106, [.nilFunc]), (107, [.nilFunc]), (108, [.nilFunc]), (109, [.nilFunc]), (110, [.nilFunc]), (111, [.nilFunc]), (113, [.int .u64 0]), (114, [.nilFunc]), (115, [.nilFunc]), (116, [.slice none 0 0]), (118, [.nilFunc]), (119, [.pointer none]), (120, [.nilFunc]), (121, [.pointer none]), (122, [.pointer none, .slice none 0 0]), (123, [.pointer none, .slice none 0 0]), (124, [.nilFunc]), (125, [.nilIface]), (126, [.nilIface]), (128, [.nilFunc]), (129, [.nilFunc]), (130, [.bool false, .bool false, .bool false, .bool false]), (131, [.bool false, .bool false, .bool false, .bool false]), (132, [.nilFunc]), (133, [.nilFunc]), (134, [.nilFunc]), (135, [.nilFunc]), (136, [.nilFunc]), (140, [.nilFunc]), (141, [.nilFunc]), (142, [.pointer none]), (143, [.nilFunc]), (144, [.nilFunc]), (145, [.int .u64 0]), (146, [.nilFunc]), (148, [.int .u32 0]), (150, [.nilFunc]), (154, [.int .u32 0]), (155, [.int .u32 0]), (156, [.int .i32 0, .int .u32 0]), (157, [.int .i32 0, .int .u32 0]), (158, [.int .i32 0, .int .u32 0]), (159, [.int .i32 0, .int .u32 0]), (160, [.int .u32 0, .int .i32 0, .int .u32 0]), (161, [.int .u32 0, .int .i32 0, .int .u32 0]), (162, [.nilIface]), (163, [.nilIface]), (164, [.int .u32 0, .int .i32 0, .int .u32 0, .nilIface, .slice none 0 0]), (165, [.int .u32 0, .int .i32 0, .int .u32 0, .nilIface, .slice none 0 0]), (166, [.nilFunc]), (167, [.pointer none]), (168, [.slice none 0 0, .string ⟨#[]⟩, .int .i64 0, .int .i64 0]), (169, [.slice none 0 0, .string ⟨#[]⟩, .int .i64 0, .int .i64 0]), (171, [.nilFunc]), (172, [.slice none 0 0, .string ⟨#[]⟩, .int .i64 0, .int .i64 0]), (174, [.nilFunc]), (175, [.nilFunc]), (177, [.nilFunc]), (178, [.nilFunc]), (179, [.nilFunc]), (181, [.nilFunc]), (182, [.nilFunc]), (183, [.pointer none]), (184, [.nilFunc]), (186, [.nilFunc]), (187, [.nilFunc]), (189, [.nilFunc]), (190, [.nilFunc]), (191, [.nilFunc]), (194, [.pointer none]), (195, [.nilFunc]), (196, [.pointer none]), (197, [.nilFunc]), (198, [.pointer none]), (199, [.nilFunc]), (200, [.pointer none]), (201, [.nilFunc]), (204, [.pointer none]), (208, [.pointer none]), (209, [.int .u8 0, .int .u8 0]), (210, [.int .u8 0, .int .u8 0]), (212, [.nilFunc]), (213, [.pointer none]), (214, [.nilFunc]), (215, [.nilFunc]), (216, [.pointer none]), (217, [.nilFunc]), (218, [.pointer none, .string ⟨#[]⟩]), (219, [.pointer none, .string ⟨#[]⟩]), (220, [.pointer none]), (221, [.slice none 0 0]), (222, [.string ⟨#[]⟩, .int .i64 0, .string ⟨#[]⟩, .pointer none, .slice none 0 0]), (223, [.string ⟨#[]⟩, .int .i64 0, .string ⟨#[]⟩, .pointer none, .slice none 0 0]), (226, [.nilFunc]), (227, [.nilFunc]), (228, [.pointer none]), (229, [.nilFunc]), (230, [.pointer none]), (231, [.nilFunc]), (232, [.nilFunc]), (233, [.nilFunc]), (237, [.int .i64 0]), (239, [.nilFunc]), (240, [.pointer none]), (241, [.nilFunc]), (242, [.nilFunc]), (243, [.nilFunc]), (244, [.nilFunc]), (245, [.nilFunc]), (247, [.nilFunc]), (248, [.string ⟨#[]⟩, .string ⟨#[]⟩, .nilIface]), (249, [.string ⟨#[]⟩, .string ⟨#[]⟩, .nilIface]), (250, [.nilFunc]), (251, [.nilFunc]), (252, [.pointer none]), (253, [.string ⟨#[]⟩]), (254, [.string ⟨#[]⟩]), (255, [.pointer none, .pointer none, .pointer none, .string ⟨#[]⟩]), (256, [.pointer none, .pointer none, .pointer none, .string ⟨#[]⟩]), (260, [.nilFunc]), (261, [.int .u8 0]), (262, [.int .u8 0]), (263, [.nilFunc]), (264, [.int .i32 0]), (265, [.int .i32 0]), (266, [.int .u64 0, .int .u64 0, .int .u32 0, .int .u8 0, .int .u8 0, .int .u8 0, .int .u8 0, .nilFunc, .pointer none, .int .i32 0, .int .i32 0]), (267, [.int .u64 0, .int .u64 0, .int .u32 0, .int .u8 0, .int .u8 0, .int .u8 0, .int .u8 0, .nilFunc, .pointer none, .int .i32 0, .int .i32 0]), (268, [.nilFunc]), (269, [.slice none 0 0]), (270, [.pointer none]), (271, [.nilIface]), (272, [.nilIface]), (273, [.nilIface]), (274, [.nilIface]), (275, [.nilFunc]), (277, [.nilFunc]), (279, [.nilIface]), (280, [.nilIface]), (281, [.nilFunc])]
def T : Nat → Option TI := lookT TAB
def Z : Nat → Option (List Value) := lookT ZAB
theorem hT : TOk Tryz.prog T Z := by
  refine ⟨fun t i h => ?_, fun t z h => ?_⟩
  · have hall : AllT (TFact Tryz.prog) TAB := by
      unfold TAB
      exact ⟨tf0, tf1, tf2, tf3, tf4, tf5, tf6, tf7, tf8, tf9, tf10, tf11, tf12, tf13, tf14, tf15, tf16, tf17, tf18, tf19, tf20, tf21, tf22, tf23, tf24, tf25, tf26, tf27, tf28, tf29, tf30, tf31, tf32, tf33, tf34, tf35, tf36, tf37, tf38, tf39, tf40, tf41, tf42, tf43, tf44, tf45, tf46, tf47, tf48, tf49, tf50, tf51, tf52, tf53, tf54, tf55, tf56, tf57, tf58, tf59, tf60, tf61, tf62, tf63, tf64, tf65, tf66, tf67, tf68, tf69, tf70, tf71, tf72, tf73, tf74, tf75, tf76, tf77, tf78, tf79, tf80, tf81, tf82, tf83, tf84, tf85, tf86, tf87, tf88, tf89, tf90, tf91, tf92, tf93, tf94, tf95, tf96, tf97, tf98, tf99, tf100, tf101, tf102, tf103, tf104, tf105, tf106, tf107, tf108, tf109, tf110, tf111, tf113, tf114, tf115, tf116, tf117, tf118, tf119, tf120, tf121, tf122, tf123, tf124, tf125, tf126, tf127, tf128, tf129, tf130, tf131, tf132, tf133, tf134, tf135, tf136, tf139, tf140, tf141, tf142, tf143, tf144, tf145, tf146, tf148, tf150, tf156, tf157, tf162, tf163, tf164, tf165, tf166, tf167, tf168, tf169, tf170, tf171, tf172, tf173, tf174, tf175, tf176, tf177, tf178, tf179, tf180, tf181, tf182, tf183, tf184, tf185, tf186, tf187, tf188, tf189, tf190, tf191, tf194, tf195, tf196, tf197, tf198, tf199, tf200, tf201, tf204, tf206, tf207, tf208, tf209, tf210, tf212, tf213, tf214, tf215, tf216, tf217, tf218, tf219, tf220, tf221, tf222, tf223, tf224, tf225, tf226, tf227, tf228, tf229, tf230, tf231, tf232, tf233, tf235, tf236, tf237, tf238, tf239, tf240, tf241, tf242, tf243, tf244, tf245, tf246, tf247, tf248, tf249, tf250, tf251, tf252, tf253, tf254, tf255, tf256, tf260, tf261, tf262, tf263, tf264, tf265, tf266, tf267, tf268, tf269, tf270, tf271, tf272, tf273, tf274, tf275, tf276, tf277, tf278, tf279, tf280, tf281, trivial⟩
    exact hall.at h
  · have hall : AllT (TZer Tryz.prog) ZAB := by
      unfold ZAB
      exact ⟨inferInstance, inferInstance, inferInstance, inferInstance, inferInstance, inferInstance, inferInstance, inferInstance, inferInstance, inferInstance, inferInstance, inferInstance, inferInstance, inferInstance, inferInstance, inferInstance, inferInstance, inferInstance, inferInstance, inferInstance, inferInstance, inferInstance, inferInstance, inferInstance, inferInstance, inferInstance, inferInstance, inferInstance, inferInstance, inferInstance, inferInstance, inferInstance, inferInstance, inferInstance, inferInstance, inferInstance, inferInstance, inferInstance, inferInstance, inferInstance, inferInstance, inferInstance, inferInstance, inferInstance, inferInstance, inferInstance, inferInstance, inferInstance, inferInstance, inferInstance, inferInstance, inferInstance, inferInstance, inferInstance, inferInstance, inferInstance, inferInstance, inferInstance, inferInstance, inferInstance, inferInstance, inferInstance, inferInstance, inferInstance, inferInstance, inferInstance, inferInstance, inferInstance, inferInstance, inferInstance, inferInstance, inferInstance, inferInstance, inferInstance, inferInstance, inferInstance, inferInstance, inferInstance, inferInstance, inferInstance, inferInstance, inferInstance, inferInstance, inferInstance, inferInstance, inferInstance, inferInstance, inferInstance, inferInstance, inferInstance, inferInstance, inferInstance, inferInstance, inferInstance, inferInstance, inferInstance, inferInstance, inferInstance, inferInstance, inferInstance, inferInstance, inferInstance, inferInstance, inferInstance, inferInstance, inferInstance, inferInstance, inferInstance, inferInstance, inferInstance, inferInstance, inferInstance, inferInstance, inferInstance, inferInstance, inferInstance, inferInstance, inferInstance, inferInstance, inferInstance, inferInstance, inferInstance, inferInstance, inferInstance, inferInstance, inferInstance, inferInstance, inferInstance, inferInstance, inferInstance, inferInstance, inferInstance, inferInstance, inferInstance, inferInstance, inferInstance, inferInstance, inferInstance, inferInstance, inferInstance, inferInstance, inferInstance, inferInstance, inferInstance, inferInstance, inferInstance, inferInstance, inferInstance, inferInstance, inferInstance, inferInstance, inferInstance, inferInstance, inferInstance, inferInstance, inferInstance, inferInstance, inferInstance, inferInstance, inferInstance, inferInstance, inferInstance, inferInstance, inferInstance, inferInstance, inferInstance, inferInstance, inferInstance, inferInstance, inferInstance, inferInstance, inferInstance, inferInstance, inferInstance, inferInstance, inferInstance, inferInstance, inferInstance, inferInstance, inferInstance, inferInstance, inferInstance, inferInstance, inferInstance, inferInstance, inferInstance, inferInstance, inferInstance, inferInstance, inferInstance, inferInstance, inferInstance, inferInstance, inferInstance, inferInstance, inferInstance, inferInstance, inferInstance, inferInstance, inferInstance, inferInstance, inferInstance, inferInstance, inferInstance, inferInstance, inferInstance, inferInstance, inferInstance, inferInstance, inferInstance, inferInstance, inferInstance, inferInstance, inferInstance, inferInstance, inferInstance, inferInstance, inferInstance, inferInstance, inferInstance, inferInstance, inferInstance, inferInstance, inferInstance, inferInstance, inferInstance, inferInstance, inferInstance, inferInstance, inferInstance, inferInstance, inferInstance, inferInstance, inferInstance, inferInstance, inferInstance, trivial⟩
    exact hall.at h
theorem hM : Tryz.prog.follows .mixedOrders = true := by kernel_rfl
end Go.Proofs.YtbphihljkbdfpaaGreatDoor
