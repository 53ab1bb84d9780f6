/- The tables of types for the data machine. (Written by wip/dtab.py.). -/
import Derived.Test.YtbphihljkbdfpaaGreatDoorZ3
import Derived.Test.YtbphihljkbdfpaaGreatDoorZ6
namespace Go.Proofs.YtbphihljkbdfpaaGreatDoor
open Go.RowKit
def lookT {α : Type} : List (Nat × α) → Nat → Option α
 | [], _ => none
 | (k, v) :: r, t => match Nat.beq k t with
  | true => some v
  | false => lookT r t
def AllT {α : Type} (R : Nat → α → Prop) : List (Nat × α) → Prop
 | [] => True
 | (k, v) :: l => R k v ∧ AllT R l
theorem AllT.at {α : Type} {R : Nat → α → Prop} : ∀ {l : List (Nat × α)} {t : Nat} {x : α}, AllT R l → lookT l t = some x → R t x
 | [], _, _, _, h => by cases h
 | (k, v) :: r, t, x, ha, h => by
  simp only [lookT] at h
  split at h
  ·rename_i hk
   have hk := Nat.eq_of_beq_eq_true hk
   cases h
   subst hk
   exact ha.1
  ·exact AllT.at ha.2 h
set_option maxRecDepth 100000
theorem tf0 : TFact Tryz.prog 0 (.one) := (inferInstance : TOne Tryz.prog 0)
theorem tf1 : TFact Tryz.prog 1 (.one) := (inferInstance : TOne Tryz.prog 1)
theorem tf2 : TFact Tryz.prog 2 (.int .i64) := ⟨inferInstance, inferInstance⟩
theorem tf3 : TFact Tryz.prog 3 (.int .i64) := ⟨inferInstance, inferInstance⟩
theorem tf4 : TFact Tryz.prog 4 (.bool) := ⟨inferInstance, inferInstance⟩
theorem tf5 : TFact Tryz.prog 5 (.int .u8) := ⟨inferInstance, inferInstance⟩
theorem tf6 : TFact Tryz.prog 6 (.int .u8) := ⟨inferInstance, inferInstance⟩
theorem tf7 : TFact Tryz.prog 7 (.st 4 [(0, 1, false), (1, 1, false), (2, 1, false), (3, 1, false)] (some [0, 0, 2, 0])) := ⟨inferInstance, fun i off n ag h => by
  match i, h with
  | 0, h => cases h; infer_instance
  | 1, h => cases h; infer_instance
  | 2, h => cases h; infer_instance
  | 3, h => cases h; infer_instance
  | j + 4, h => simp at h, inferInstance, fun k h => by
  cases h; infer_instance⟩
theorem tf8 : TFact Tryz.prog 8 (.st 4 [(0, 1, false), (1, 1, false), (2, 1, false), (3, 1, false)] (some [0, 0, 2, 0])) := ⟨inferInstance, fun i off n ag h => by
  match i, h with
  | 0, h => cases h; infer_instance
  | 1, h => cases h; infer_instance
  | 2, h => cases h; infer_instance
  | 3, h => cases h; infer_instance
  | j + 4, h => simp at h, inferInstance, fun k h => by
  cases h; infer_instance⟩
theorem tf9 : TFact Tryz.prog 9 (.str) := ⟨inferInstance, inferInstance⟩
theorem tf10 : TFact Tryz.prog 10 (.str) := ⟨inferInstance, inferInstance⟩
theorem tf11 : TFact Tryz.prog 11 (.str) := ⟨inferInstance, inferInstance⟩
theorem tf20 : TFact Tryz.prog 20 (.ifc) := ⟨inferInstance, inferInstance⟩
theorem tf21 : TFact Tryz.prog 21 (.int .i32) := ⟨inferInstance, inferInstance⟩
theorem tf22 : TFact Tryz.prog 22 (.sl 3 1 8 [.int .i64 0]) := ⟨inferInstance, inferInstance, inferInstance, inferInstance, inferInstance⟩
theorem tf23 : TFact Tryz.prog 23 (.sl 26 6 88 [.int .i64 0, .slice none 0 0, .string ⟨#[]⟩, .slice none 0 0, .int .i64 0, .int .i64 0]) := ⟨inferInstance, inferInstance, inferInstance, inferInstance, inferInstance⟩
theorem tf24 : TFact Tryz.prog 24 (.sl 9 1 16 [.string ⟨#[]⟩]) := ⟨inferInstance, inferInstance, inferInstance, inferInstance, inferInstance⟩
theorem tf26 : TFact Tryz.prog 26 (.st 6 [(0, 1, false), (1, 1, false), (2, 1, false), (3, 1, false), (4, 1, false), (5, 1, false)] none) := ⟨inferInstance, fun i off n ag h => by
  match i, h with
  | 0, h => cases h; infer_instance
  | 1, h => cases h; infer_instance
  | 2, h => cases h; infer_instance
  | 3, h => cases h; infer_instance
  | 4, h => cases h; infer_instance
  | 5, h => cases h; infer_instance
  | j + 6, h => simp at h, inferInstance, fun k h => by
  cases h⟩
theorem tf27 : TFact Tryz.prog 27 (.int .i64) := ⟨inferInstance, inferInstance⟩
theorem tf28 : TFact Tryz.prog 28 (.one) := (inferInstance : TOne Tryz.prog 28)
theorem tf30 : TFact Tryz.prog 30 (.one) := (inferInstance : TOne Tryz.prog 30)
theorem tf32 : TFact Tryz.prog 32 (.one) := (inferInstance : TOne Tryz.prog 32)
theorem tf37 : TFact Tryz.prog 37 (.one) := (inferInstance : TOne Tryz.prog 37)
theorem tf40 : TFact Tryz.prog 40 (.one) := (inferInstance : TOne Tryz.prog 40)
theorem tf41 : TFact Tryz.prog 41 (.one) := (inferInstance : TOne Tryz.prog 41)
theorem tf44 : TFact Tryz.prog 44 (.one) := (inferInstance : TOne Tryz.prog 44)
theorem tf45 : TFact Tryz.prog 45 (.one) := (inferInstance : TOne Tryz.prog 45)
theorem tf46 : TFact Tryz.prog 46 (.one) := (inferInstance : TOne Tryz.prog 46)
theorem tf47 : TFact Tryz.prog 47 (.one) := (inferInstance : TOne Tryz.prog 47)
theorem tf48 : TFact Tryz.prog 48 (.one) := (inferInstance : TOne Tryz.prog 48)
theorem tf49 : TFact Tryz.prog 49 (.one) := (inferInstance : TOne Tryz.prog 49)
theorem tf50 : TFact Tryz.prog 50 (.one) := (inferInstance : TOne Tryz.prog 50)
theorem tf51 : TFact Tryz.prog 51 (.one) := (inferInstance : TOne Tryz.prog 51)
theorem tf52 : TFact Tryz.prog 52 (.one) := (inferInstance : TOne Tryz.prog 52)
theorem tf53 : TFact Tryz.prog 53 (.one) := (inferInstance : TOne Tryz.prog 53)
theorem tf54 : TFact Tryz.prog 54 (.one) := (inferInstance : TOne Tryz.prog 54)
theorem tf55 : TFact Tryz.prog 55 (.one) := (inferInstance : TOne Tryz.prog 55)
theorem tf56 : TFact Tryz.prog 56 (.one) := (inferInstance : TOne Tryz.prog 56)
theorem tf57 : TFact Tryz.prog 57 (.one) := (inferInstance : TOne Tryz.prog 57)
theorem tf58 : TFact Tryz.prog 58 (.one) := (inferInstance : TOne Tryz.prog 58)
theorem tf61 : TFact Tryz.prog 61 (.sl 66 3 40 [.int .i64 0, .int .i64 0, .slice none 0 0]) := ⟨inferInstance, inferInstance, inferInstance, inferInstance, inferInstance⟩
theorem tf65 : TFact Tryz.prog 65 (.st 3 [(0, 1, false), (1, 1, false), (2, 1, false)] none) := ⟨inferInstance, fun i off n ag h => by
  match i, h with
  | 0, h => cases h; infer_instance
  | 1, h => cases h; infer_instance
  | 2, h => cases h; infer_instance
  | j + 3, h => simp at h, inferInstance, fun k h => by
  cases h⟩
theorem tf66 : TFact Tryz.prog 66 (.st 3 [(0, 1, false), (1, 1, false), (2, 1, false)] none) := ⟨inferInstance, fun i off n ag h => by
  match i, h with
  | 0, h => cases h; infer_instance
  | 1, h => cases h; infer_instance
  | 2, h => cases h; infer_instance
  | j + 3, h => simp at h, inferInstance, fun k h => by
  cases h⟩
theorem tf67 : TFact Tryz.prog 67 (.sl 4 1 1 [.bool false]) := ⟨inferInstance, inferInstance, inferInstance, inferInstance, inferInstance⟩
theorem tf68 : TFact Tryz.prog 68 (.one) := (inferInstance : TOne Tryz.prog 68)
theorem tf69 : TFact Tryz.prog 69 (.one) := (inferInstance : TOne Tryz.prog 69)
theorem tf70 : TFact Tryz.prog 70 (.one) := (inferInstance : TOne Tryz.prog 70)
theorem tf71 : TFact Tryz.prog 71 (.one) := (inferInstance : TOne Tryz.prog 71)
theorem tf72 : TFact Tryz.prog 72 (.one) := (inferInstance : TOne Tryz.prog 72)
theorem tf73 : TFact Tryz.prog 73 (.one) := (inferInstance : TOne Tryz.prog 73)
theorem tf74 : TFact Tryz.prog 74 (.one) := (inferInstance : TOne Tryz.prog 74)
theorem tf75 : TFact Tryz.prog 75 (.one) := (inferInstance : TOne Tryz.prog 75)
theorem tf76 : TFact Tryz.prog 76 (.one) := (inferInstance : TOne Tryz.prog 76)
theorem tf77 : TFact Tryz.prog 77 (.one) := (inferInstance : TOne Tryz.prog 77)
theorem tf78 : TFact Tryz.prog 78 (.one) := (inferInstance : TOne Tryz.prog 78)
theorem tf79 : TFact Tryz.prog 79 (.one) := (inferInstance : TOne Tryz.prog 79)
theorem tf80 : TFact Tryz.prog 80 (.one) := (inferInstance : TOne Tryz.prog 80)
theorem tf81 : TFact Tryz.prog 81 (.st 1 [(0, 1, false)] (some [0])) := ⟨inferInstance, fun i off n ag h => by
  match i, h with
  | 0, h => cases h; infer_instance
  | j + 1, h => simp at h, inferInstance, fun k h => by
  cases h; infer_instance⟩
theorem tf82 : TFact Tryz.prog 82 (.st 1 [(0, 1, false)] (some [0])) := ⟨inferInstance, fun i off n ag h => by
  match i, h with
  | 0, h => cases h; infer_instance
  | j + 1, h => simp at h, inferInstance, fun k h => by
  cases h; infer_instance⟩
theorem tf83 : TFact Tryz.prog 83 (.one) := (inferInstance : TOne Tryz.prog 83)
theorem tf84 : TFact Tryz.prog 84 (.one) := (inferInstance : TOne Tryz.prog 84)
theorem tf85 : TFact Tryz.prog 85 (.one) := (inferInstance : TOne Tryz.prog 85)
theorem tf86 : TFact Tryz.prog 86 (.one) := (inferInstance : TOne Tryz.prog 86)
theorem tf87 : TFact Tryz.prog 87 (.one) := (inferInstance : TOne Tryz.prog 87)
theorem tf88 : TFact Tryz.prog 88 (.one) := (inferInstance : TOne Tryz.prog 88)
theorem tf89 : TFact Tryz.prog 89 (.one) := (inferInstance : TOne Tryz.prog 89)
theorem tf90 : TFact Tryz.prog 90 (.one) := (inferInstance : TOne Tryz.prog 90)
theorem tf97 : TFact Tryz.prog 97 (.one) := (inferInstance : TOne Tryz.prog 97)
theorem tf98 : TFact Tryz.prog 98 (.one) := (inferInstance : TOne Tryz.prog 98)
theorem tf99 : TFact Tryz.prog 99 (.one) := (inferInstance : TOne Tryz.prog 99)
theorem tf100 : TFact Tryz.prog 100 (.one) := (inferInstance : TOne Tryz.prog 100)
theorem tf101 : TFact Tryz.prog 101 (.one) := (inferInstance : TOne Tryz.prog 101)
theorem tf102 : TFact Tryz.prog 102 (.one) := (inferInstance : TOne Tryz.prog 102)
theorem tf103 : TFact Tryz.prog 103 (.one) := (inferInstance : TOne Tryz.prog 103)
theorem tf104 : TFact Tryz.prog 104 (.one) := (inferInstance : TOne Tryz.prog 104)
theorem tf105 : TFact Tryz.prog 105 (.one) := (inferInstance : TOne Tryz.prog 105)
theorem tf106 : TFact Tryz.prog 106 (.one) := (inferInstance : TOne Tryz.prog 106)
theorem tf107 : TFact Tryz.prog 107 (.one) := (inferInstance : TOne Tryz.prog 107)
theorem tf108 : TFact Tryz.prog 108 (.one) := (inferInstance : TOne Tryz.prog 108)
theorem tf109 : TFact Tryz.prog 109 (.one) := (inferInstance : TOne Tryz.prog 109)
theorem tf110 : TFact Tryz.prog 110 (.one) := (inferInstance : TOne Tryz.prog 110)
theorem tf111 : TFact Tryz.prog 111 (.one) := (inferInstance : TOne Tryz.prog 111)
theorem tf113 : TFact Tryz.prog 113 (.int .u64) := ⟨inferInstance, inferInstance⟩
theorem tf114 : TFact Tryz.prog 114 (.one) := (inferInstance : TOne Tryz.prog 114)
theorem tf115 : TFact Tryz.prog 115 (.one) := (inferInstance : TOne Tryz.prog 115)
theorem tf116 : TFact Tryz.prog 116 (.sl 5 1 1 [.int .u8 0]) := ⟨inferInstance, inferInstance, inferInstance, inferInstance, inferInstance⟩
theorem tf117 : TFact Tryz.prog 117 (.one) := (inferInstance : TOne Tryz.prog 117)
theorem tf118 : TFact Tryz.prog 118 (.one) := (inferInstance : TOne Tryz.prog 118)
theorem tf119 : TFact Tryz.prog 119 (.one) := (inferInstance : TOne Tryz.prog 119)
theorem tf120 : TFact Tryz.prog 120 (.one) := (inferInstance : TOne Tryz.prog 120)
theorem tf121 : TFact Tryz.prog 121 (.one) := (inferInstance : TOne Tryz.prog 121)
theorem tf122 : TFact Tryz.prog 122 (.st 2 [(0, 1, false), (1, 1, false)] none) := ⟨inferInstance, fun i off n ag h => by
  match i, h with
  | 0, h => cases h; infer_instance
  | 1, h => cases h; infer_instance
  | j + 2, h => simp at h, inferInstance, fun k h => by
  cases h⟩
theorem tf126 : TFact Tryz.prog 126 (.ifc) := ⟨inferInstance, inferInstance⟩
theorem tf127 : TFact Tryz.prog 127 (.one) := (inferInstance : TOne Tryz.prog 127)
theorem tf131 : TFact Tryz.prog 131 (.st 4 [(0, 1, false), (1, 1, false), (2, 1, false), (3, 1, false)] (some [2, 2, 2, 2])) := ⟨inferInstance, fun i off n ag h => by
  match i, h with
  | 0, h => cases h; infer_instance
  | 1, h => cases h; infer_instance
  | 2, h => cases h; infer_instance
  | 3, h => cases h; infer_instance
  | j + 4, h => simp at h, inferInstance, fun k h => by
  cases h; infer_instance⟩
theorem tf139 : TFact Tryz.prog 139 (.one) := (inferInstance : TOne Tryz.prog 139)
theorem tf142 : TFact Tryz.prog 142 (.one) := (inferInstance : TOne Tryz.prog 142)
theorem tf145 : TFact Tryz.prog 145 (.int .u64) := ⟨inferInstance, inferInstance⟩
theorem tf148 : TFact Tryz.prog 148 (.int .u32) := ⟨inferInstance, inferInstance⟩
theorem tf167 : TFact Tryz.prog 167 (.one) := (inferInstance : TOne Tryz.prog 167)
theorem tf169 : TFact Tryz.prog 169 (.st 4 [(0, 1, false), (1, 1, false), (2, 1, false), (3, 1, false)] none) := ⟨inferInstance, fun i off n ag h => by
  match i, h with
  | 0, h => cases h; infer_instance
  | 1, h => cases h; infer_instance
  | 2, h => cases h; infer_instance
  | 3, h => cases h; infer_instance
  | j + 4, h => simp at h, inferInstance, fun k h => by
  cases h⟩
theorem tf170 : TFact Tryz.prog 170 (.one) := (inferInstance : TOne Tryz.prog 170)
theorem tf172 : TFact Tryz.prog 172 (.st 4 [(0, 1, false), (1, 1, false), (2, 1, false), (3, 1, false)] none) := ⟨inferInstance, fun i off n ag h => by
  match i, h with
  | 0, h => cases h; infer_instance
  | 1, h => cases h; infer_instance
  | 2, h => cases h; infer_instance
  | 3, h => cases h; infer_instance
  | j + 4, h => simp at h, inferInstance, fun k h => by
  cases h⟩
theorem tf173 : TFact Tryz.prog 173 (.one) := (inferInstance : TOne Tryz.prog 173)
theorem tf176 : TFact Tryz.prog 176 (.one) := (inferInstance : TOne Tryz.prog 176)
theorem tf180 : TFact Tryz.prog 180 (.one) := (inferInstance : TOne Tryz.prog 180)
theorem tf188 : TFact Tryz.prog 188 (.one) := (inferInstance : TOne Tryz.prog 188)
theorem tf210 : TFact Tryz.prog 210 (.st 2 [(0, 1, false), (1, 1, false)] (some [0, 0])) := ⟨inferInstance, fun i off n ag h => by
  match i, h with
  | 0, h => cases h; infer_instance
  | 1, h => cases h; infer_instance
  | j + 2, h => simp at h, inferInstance, fun k h => by
  cases h; infer_instance⟩
theorem tf237 : TFact Tryz.prog 237 (.int .i64) := ⟨inferInstance, inferInstance⟩
theorem tf238 : TFact Tryz.prog 238 (.one) := (inferInstance : TOne Tryz.prog 238)
theorem tf240 : TFact Tryz.prog 240 (.one) := (inferInstance : TOne Tryz.prog 240)
theorem tf246 : TFact Tryz.prog 246 (.one) := (inferInstance : TOne Tryz.prog 246)
theorem tf249 : TFact Tryz.prog 249 (.st 3 [(0, 1, false), (1, 1, false), (2, 1, false)] none) := ⟨inferInstance, fun i off n ag h => by
  match i, h with
  | 0, h => cases h; infer_instance
  | 1, h => cases h; infer_instance
  | 2, h => cases h; infer_instance
  | j + 3, h => simp at h, inferInstance, fun k h => by
  cases h⟩
theorem tf252 : TFact Tryz.prog 252 (.one) := (inferInstance : TOne Tryz.prog 252)
theorem tf254 : TFact Tryz.prog 254 (.st 1 [(0, 1, false)] (some [1])) := ⟨inferInstance, fun i off n ag h => by
  match i, h with
  | 0, h => cases h; infer_instance
  | j + 1, h => simp at h, inferInstance, fun k h => by
  cases h; infer_instance⟩
def TAB : List (Nat × TI) := [(0, .one), (1, .one), (2, .int .i64), (3, .int .i64), (4, .bool), (5, .int .u8), (6, .int .u8), (7, .st 4 [(0, 1, false), (1, 1, false), (2, 1, false), (3, 1, false)] (some [0, 0, 2, 0])), (8, .st 4 [(0, 1, false), (1, 1, false), (2, 1, false), (3, 1, false)] (some [0, 0, 2, 0])), (9, .str), (10, .str), (11, .str), (20, .ifc), (21, .int .i32), (22, .sl 3 1 8 [.int .i64 0]), (23, .sl 26 6 88 [.int .i64 0, .slice none 0 0, .string ⟨#[]⟩, .slice none 0 0, .int .i64 0, .int .i64 0]), (24, .sl 9 1 16 [.string ⟨#[]⟩]), (26, .st 6 [(0, 1, false), (1, 1, false), (2, 1, false), (3, 1, false), (4, 1, false), (5, 1, false)] none), (27, .int .i64), (28, .one), (30, .one), (32, .one), (37, .one), (40, .one), (41, .one), (44, .one), (45, .one), (46, .one), (47, .one), (48, .one), (49, .one), (50, .one), (51, .one), (52, .one), (53, .one), (54, .one), (55, .one), (56, .one), (57, .one), (58, .one), (61, .sl 66 3 40 [.int .i64 0, .int .i64 0, .slice none 0 0]), (65, .st 3 [(0, 1, false), (1, 1, false), (2, 1, false)] none), (66, .st 3 [(0, 1, false), (1, 1, false), (2, 1, false)] none), (67, .sl 4 1 1 [.bool false]), (68, .one), (69, .one), (70, .one), (71, .one), (72, .one), (73, .one), (74, .one), (75, .one), (76, .one), (77, .one), (78, .one), (79, .one), (80, .one), (81, .st 1 [(0, 1, false)] (some [0])), (82, .st 1 [(0, 1, false)] (some [0])), (83, .one), (84, .one), (85, .one), (86, .one), (87, .one), (88, .one), (89, .one), (90, .one), (97, .one), (98, .one), (99, .one), (100, .one), (101, .one), (102, .one), (103, .one), (104, .one), (105, .one), (106, .one), (107, .one), (108, .one), (109, .one), (110, .one), (111, .one), (113, .int .u64), (114, .one), (115, .one), (116, .sl 5 1 1 [.int .u8 0]), (117, .one), (118, .one), (119, .one), (120, .one), (121, .one), (122, .st 2 [(0, 1, false), (1, 1, false)] none), (126, .ifc), (127, .one), (131, .st 4 [(0, 1, false), (1, 1, false), (2, 1, false), (3, 1, false)] (some [2, 2, 2, 2])), (139, .one), (142, .one), (145, .int .u64), (148, .int .u32), (167, .one), (169, .st 4 [(0, 1, false), (1, 1, false), (2, 1, false), (3, 1, false)] none), (170, .one), (172, .st 4 [(0, 1, false), (1, 1, false), (2, 1, false), (3, 1, false)] none), (173, .one), (176, .one), (180, .one), (188, .one), (210, .st 2 [(0, 1, false), (1, 1, false)] (some [0, 0])), (237, .int .i64), (238, .one), (240, .one), (246, .one), (249, .st 3 [(0, 1, false), (1, 1, false), (2, 1, false)] none), (252, .one), (254, .st 1 [(0, 1, false)] (some [1]))]
def ZAB : List (Nat × List Value) := [(1, [.nilFunc]), (2, [.int .i64 0]), (3, [.int .i64 0]), (4, [.bool false]), (5, [.int .u8 0]), (6, [.int .u8 0]), (7, [.int .i64 0, .int .i64 0, .bool false, .int .u8 0]), (8, [.int .i64 0, .int .i64 0, .bool false, .int .u8 0]), (9, [.string ⟨#[]⟩]), (10, [.string ⟨#[]⟩]), (11, [.string ⟨#[]⟩]), (20, [.nilIface]), (21, [.int .i32 0]), (22, [.slice none 0 0]), (23, [.slice none 0 0]), (24, [.slice none 0 0]), (26, [.int .i64 0, .slice none 0 0, .string ⟨#[]⟩, .slice none 0 0, .int .i64 0, .int .i64 0]), (27, [.int .i64 0]), (30, [.nilFunc]), (32, [.nilFunc]), (40, [.nilFunc]), (44, [.nilFunc]), (45, [.nilFunc]), (46, [.nilFunc]), (47, [.nilFunc]), (48, [.nilFunc]), (49, [.nilFunc]), (50, [.nilFunc]), (51, [.nilFunc]), (52, [.nilFunc]), (54, [.nilFunc]), (55, [.nilFunc]), (56, [.nilFunc]), (57, [.nilFunc]), (58, [.nilFunc]), (61, [.slice none 0 0]), (65, [.int .i64 0, .int .i64 0, .slice none 0 0]), (66, [.int .i64 0, .int .i64 0, .slice none 0 0]), (67, [.slice none 0 0]), (68, [.nilFunc]), (69, [.nilFunc]), (70, [.nilFunc]), (71, [.nilFunc]), (72, [.nilFunc]), (73, [.nilFunc]), (74, [.nilFunc]), (75, [.nilFunc]), (76, [.nilFunc]), (77, [.nilFunc]), (78, [.nilFunc]), (79, [.nilFunc]), (80, [.pointer none]), (81, [.int .i64 0]), (82, [.int .i64 0]), (83, [.nilFunc]), (85, [.nilFunc]), (86, [.nilFunc]), (87, [.nilFunc]), (89, [.nilFunc]), (90, [.nilFunc]), (97, [.nilFunc]), (98, [.nilFunc]), (99, [.nilFunc]), (100, [.nilFunc]), (101, [.nilFunc]), (102, [.nilFunc]), (103, [.nilFunc]), (104, [.nilFunc]), (105, [.nilFunc]), (106, [.nilFunc]), (107, [.nilFunc]), (108, [.nilFunc]), (109, [.nilFunc]), (110, [.nilFunc]), (111, [.nilFunc]), (113, [.int .u64 0]), (114, [.nilFunc]), (115, [.nilFunc]), (116, [.slice none 0 0]), (118, [.nilFunc]), (119, [.pointer none]), (120, [.nilFunc]), (121, [.pointer none]), (122, [.pointer none, .slice none 0 0]), (126, [.nilIface]), (131, [.bool false, .bool false, .bool false, .bool false]), (142, [.pointer none]), (145, [.int .u64 0]), (148, [.int .u32 0]), (167, [.pointer none]), (169, [.slice none 0 0, .string ⟨#[]⟩, .int .i64 0, .int .i64 0]), (172, [.slice none 0 0, .string ⟨#[]⟩, .int .i64 0, .int .i64 0]), (210, [.int .u8 0, .int .u8 0]), (237, [.int .i64 0]), (240, [.pointer none]), (249, [.string ⟨#[]⟩, .string ⟨#[]⟩, .nilIface]), (252, [.pointer none]), (254, [.string ⟨#[]⟩])]
def T : Nat → Option TI := lookT TAB
def Z : Nat → Option (List Value) := lookT ZAB
theorem hT : TOk Tryz.prog T Z := by
 refine ⟨fun t i h => ?_, fun t z h => ?_⟩
 ·have hall : AllT (TFact Tryz.prog) TAB := by
   unfold TAB
   exact ⟨tf0, tf1, tf2, tf3, tf4, tf5, tf6, tf7, tf8, tf9, tf10, tf11, tf20, tf21, tf22, tf23, tf24, tf26, tf27, tf28, tf30, tf32, tf37, tf40, tf41, tf44, tf45, tf46, tf47, tf48, tf49, tf50, tf51, tf52, tf53, tf54, tf55, tf56, tf57, tf58, tf61, tf65, tf66, tf67, tf68, tf69, tf70, tf71, tf72, tf73, tf74, tf75, tf76, tf77, tf78, tf79, tf80, tf81, tf82, tf83, tf84, tf85, tf86, tf87, tf88, tf89, tf90, tf97, tf98, tf99, tf100, tf101, tf102, tf103, tf104, tf105, tf106, tf107, tf108, tf109, tf110, tf111, tf113, tf114, tf115, tf116, tf117, tf118, tf119, tf120, tf121, tf122, tf126, tf127, tf131, tf139, tf142, tf145, tf148, tf167, tf169, tf170, tf172, tf173, tf176, tf180, tf188, tf210, tf237, tf238, tf240, tf246, tf249, tf252, tf254, trivial⟩
  exact hall.at h
 ·have hall : AllT (TZer Tryz.prog) ZAB := by
   unfold ZAB
   exact ⟨inferInstance, inferInstance, inferInstance, inferInstance, inferInstance, inferInstance, inferInstance, inferInstance, inferInstance, inferInstance, inferInstance, inferInstance, inferInstance, inferInstance, inferInstance, inferInstance, inferInstance, inferInstance, inferInstance, inferInstance, inferInstance, inferInstance, inferInstance, inferInstance, inferInstance, inferInstance, inferInstance, inferInstance, inferInstance, inferInstance, inferInstance, inferInstance, inferInstance, inferInstance, inferInstance, inferInstance, inferInstance, inferInstance, inferInstance, inferInstance, inferInstance, inferInstance, inferInstance, inferInstance, inferInstance, inferInstance, inferInstance, inferInstance, inferInstance, inferInstance, inferInstance, inferInstance, inferInstance, inferInstance, inferInstance, inferInstance, inferInstance, inferInstance, inferInstance, inferInstance, inferInstance, inferInstance, inferInstance, inferInstance, inferInstance, inferInstance, inferInstance, inferInstance, inferInstance, inferInstance, inferInstance, inferInstance, inferInstance, inferInstance, inferInstance, inferInstance, inferInstance, inferInstance, inferInstance, inferInstance, inferInstance, inferInstance, inferInstance, inferInstance, inferInstance, inferInstance, inferInstance, inferInstance, inferInstance, inferInstance, inferInstance, inferInstance, inferInstance, inferInstance, inferInstance, inferInstance, inferInstance, inferInstance, trivial⟩
  exact hall.at h
theorem hM : Tryz.prog.follows .mixedOrders = true := by kernel_rfl
end Go.Proofs.YtbphihljkbdfpaaGreatDoor
