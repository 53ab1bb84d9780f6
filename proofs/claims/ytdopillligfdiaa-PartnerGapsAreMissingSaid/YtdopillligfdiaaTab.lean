/- The tables of types for the data machine. (Written by wip/dtab.py.) -/
import Derived.Test.YtdopillligfdiaaElem
import Derived.Test.YtdopillligfdiaaM16
namespace Go.Proofs.Ytdopillligfdiaa
open Go.RowKit
def lookT {α : Type} : List (Nat × α) → Nat → Option α
  | [], _ => none
  | (k, v) :: r, t => match Nat.beq k t with
    | true => some v
    | false => lookT r t
theorem lookT_mem {α : Type} : ∀ {l : List (Nat × α)} {t : Nat} {x : α}, lookT l t = some x → (t, x) ∈ l
  | [], _, _, h => by cases h
  | (k, v) :: r, t, x, h => by
    simp only [lookT] at h
    split at h
    · rename_i hk
      have hk := Nat.eq_of_beq_eq_true hk
      cases h
      subst hk
      simp
    · exact List.mem_cons_of_mem _ (lookT_mem h)
theorem tf0 : TFact Try.prog 0 (.one) := (inferInstance : TOne Try.prog 0)
theorem tf1 : TFact Try.prog 1 (.one) := (inferInstance : TOne Try.prog 1)
theorem tf2 : TFact Try.prog 2 (.int .i64) := ⟨inferInstance, inferInstance⟩
theorem tf3 : TFact Try.prog 3 (.int .i64) := ⟨inferInstance, inferInstance⟩
theorem tf4 : TFact Try.prog 4 (.bool) := ⟨inferInstance, inferInstance⟩
theorem tf5 : TFact Try.prog 5 (.int .u8) := ⟨inferInstance, inferInstance⟩
theorem tf6 : TFact Try.prog 6 (.int .u8) := ⟨inferInstance, inferInstance⟩
theorem tf7 : TFact Try.prog 7 (.st 4 [(0, 1, false), (1, 1, false), (2, 1, false), (3, 1, false)] (some [0, 0, 2, 0])) := ⟨inferInstance, fun i off n ag h => by
    match i, h with
    | 0, h => cases h; infer_instance
    | 1, h => cases h; infer_instance
    | 2, h => cases h; infer_instance
    | 3, h => cases h; infer_instance
    | j + 4, h => simp at h, inferInstance, fun k h => by
    cases h; infer_instance⟩
theorem tf8 : TFact Try.prog 8 (.st 4 [(0, 1, false), (1, 1, false), (2, 1, false), (3, 1, false)] (some [0, 0, 2, 0])) := ⟨inferInstance, fun i off n ag h => by
    match i, h with
    | 0, h => cases h; infer_instance
    | 1, h => cases h; infer_instance
    | 2, h => cases h; infer_instance
    | 3, h => cases h; infer_instance
    | j + 4, h => simp at h, inferInstance, fun k h => by
    cases h; infer_instance⟩
theorem tf9 : TFact Try.prog 9 (.str) := ⟨inferInstance, inferInstance⟩
theorem tf10 : TFact Try.prog 10 (.str) := ⟨inferInstance, inferInstance⟩
theorem tf11 : TFact Try.prog 11 (.str) := ⟨inferInstance, inferInstance⟩
theorem tf12 : TFact Try.prog 12 (.int .u64) := ⟨inferInstance, inferInstance⟩
theorem tf13 : TFact Try.prog 13 (.st 2 [(0, 1, false), (1, 1, false)] none) := ⟨inferInstance, fun i off n ag h => by
    match i, h with
    | 0, h => cases h; infer_instance
    | 1, h => cases h; infer_instance
    | j + 2, h => simp at h, inferInstance, fun k h => by
    cases h⟩
theorem tf14 : TFact Try.prog 14 (.st 2 [(0, 1, false), (1, 1, false)] none) := ⟨inferInstance, fun i off n ag h => by
    match i, h with
    | 0, h => cases h; infer_instance
    | 1, h => cases h; infer_instance
    | j + 2, h => simp at h, inferInstance, fun k h => by
    cases h⟩
theorem tf15 : TFact Try.prog 15 (.one) := (inferInstance : TOne Try.prog 15)
theorem tf16 : TFact Try.prog 16 (.one) := (inferInstance : TOne Try.prog 16)
theorem tf17 : TFact Try.prog 17 (.one) := (inferInstance : TOne Try.prog 17)
theorem tf18 : TFact Try.prog 18 (.st 1 [(0, 1, false)] none) := ⟨inferInstance, fun i off n ag h => by
    match i, h with
    | 0, h => cases h; infer_instance
    | j + 1, h => simp at h, inferInstance, fun k h => by
    cases h⟩
theorem tf19 : TFact Try.prog 19 (.st 1 [(0, 1, false)] none) := ⟨inferInstance, fun i off n ag h => by
    match i, h with
    | 0, h => cases h; infer_instance
    | j + 1, h => simp at h, inferInstance, fun k h => by
    cases h⟩
theorem tf20 : TFact Try.prog 20 (.one) := (inferInstance : TOne Try.prog 20)
theorem tf21 : TFact Try.prog 21 (.int .i32) := ⟨inferInstance, inferInstance⟩
theorem tf22 : TFact Try.prog 22 (.st 2 [(0, 1, false), (1, 1, false)] (some [0, 0])) := ⟨inferInstance, fun i off n ag h => by
    match i, h with
    | 0, h => cases h; infer_instance
    | 1, h => cases h; infer_instance
    | j + 2, h => simp at h, inferInstance, fun k h => by
    cases h; infer_instance⟩
theorem tf23 : TFact Try.prog 23 (.st 2 [(0, 1, false), (1, 1, false)] (some [0, 0])) := ⟨inferInstance, fun i off n ag h => by
    match i, h with
    | 0, h => cases h; infer_instance
    | 1, h => cases h; infer_instance
    | j + 2, h => simp at h, inferInstance, fun k h => by
    cases h; infer_instance⟩
theorem tf24 : TFact Try.prog 24 (.sl 3 1 8 [.int .i64 0]) := ⟨inferInstance, inferInstance, inferInstance, inferInstance, inferInstance⟩
theorem tf25 : TFact Try.prog 25 (.sl 42 2 16 [.int .i64 0, .int .i64 0]) := ⟨inferInstance, inferInstance, inferInstance, inferInstance, inferInstance⟩
theorem tf26 : TFact Try.prog 26 (.int .i64) := ⟨inferInstance, inferInstance⟩
theorem tf27 : TFact Try.prog 27 (.one) := (inferInstance : TOne Try.prog 27)
theorem tf28 : TFact Try.prog 28 (.one) := (inferInstance : TOne Try.prog 28)
theorem tf29 : TFact Try.prog 29 (.one) := (inferInstance : TOne Try.prog 29)
theorem tf30 : TFact Try.prog 30 (.one) := (inferInstance : TOne Try.prog 30)
theorem tf31 : TFact Try.prog 31 (.one) := (inferInstance : TOne Try.prog 31)
theorem tf32 : TFact Try.prog 32 (.one) := (inferInstance : TOne Try.prog 32)
theorem tf33 : TFact Try.prog 33 (.one) := (inferInstance : TOne Try.prog 33)
theorem tf34 : TFact Try.prog 34 (.one) := (inferInstance : TOne Try.prog 34)
theorem tf35 : TFact Try.prog 35 (.one) := (inferInstance : TOne Try.prog 35)
theorem tf36 : TFact Try.prog 36 (.one) := (inferInstance : TOne Try.prog 36)
theorem tf37 : TFact Try.prog 37 (.one) := (inferInstance : TOne Try.prog 37)
theorem tf38 : TFact Try.prog 38 (.one) := (inferInstance : TOne Try.prog 38)
theorem tf39 : TFact Try.prog 39 (.one) := (inferInstance : TOne Try.prog 39)
theorem tf40 : TFact Try.prog 40 (.one) := (inferInstance : TOne Try.prog 40)
theorem tf41 : TFact Try.prog 41 (.st 2 [(0, 1, false), (1, 1, false)] (some [0, 0])) := ⟨inferInstance, fun i off n ag h => by
    match i, h with
    | 0, h => cases h; infer_instance
    | 1, h => cases h; infer_instance
    | j + 2, h => simp at h, inferInstance, fun k h => by
    cases h; infer_instance⟩
theorem tf42 : TFact Try.prog 42 (.st 2 [(0, 1, false), (1, 1, false)] (some [0, 0])) := ⟨inferInstance, fun i off n ag h => by
    match i, h with
    | 0, h => cases h; infer_instance
    | 1, h => cases h; infer_instance
    | j + 2, h => simp at h, inferInstance, fun k h => by
    cases h; infer_instance⟩
theorem tf43 : TFact Try.prog 43 (.one) := (inferInstance : TOne Try.prog 43)
theorem tf44 : TFact Try.prog 44 (.one) := (inferInstance : TOne Try.prog 44)
theorem tf45 : TFact Try.prog 45 (.one) := (inferInstance : TOne Try.prog 45)
theorem tf46 : TFact Try.prog 46 (.one) := (inferInstance : TOne Try.prog 46)
theorem tf47 : TFact Try.prog 47 (.one) := (inferInstance : TOne Try.prog 47)
theorem tf48 : TFact Try.prog 48 (.one) := (inferInstance : TOne Try.prog 48)
theorem tf49 : TFact Try.prog 49 (.one) := (inferInstance : TOne Try.prog 49)
theorem tf50 : TFact Try.prog 50 (.int .u64) := ⟨inferInstance, inferInstance⟩
theorem tf51 : TFact Try.prog 51 (.one) := (inferInstance : TOne Try.prog 51)
theorem tf52 : TFact Try.prog 52 (.one) := (inferInstance : TOne Try.prog 52)
theorem tf53 : TFact Try.prog 53 (.one) := (inferInstance : TOne Try.prog 53)
theorem tf54 : TFact Try.prog 54 (.int .i64) := ⟨inferInstance, inferInstance⟩
theorem tf55 : TFact Try.prog 55 (.one) := (inferInstance : TOne Try.prog 55)
theorem tf56 : TFact Try.prog 56 (.one) := (inferInstance : TOne Try.prog 56)
theorem tf57 : TFact Try.prog 57 (.one) := (inferInstance : TOne Try.prog 57)
theorem tf58 : TFact Try.prog 58 (.one) := (inferInstance : TOne Try.prog 58)
theorem tf59 : TFact Try.prog 59 (.one) := (inferInstance : TOne Try.prog 59)
theorem tf60 : TFact Try.prog 60 (.one) := (inferInstance : TOne Try.prog 60)
theorem tf61 : TFact Try.prog 61 (.one) := (inferInstance : TOne Try.prog 61)
theorem tf62 : TFact Try.prog 62 (.one) := (inferInstance : TOne Try.prog 62)
theorem tf63 : TFact Try.prog 63 (.int .u32) := ⟨inferInstance, inferInstance⟩
theorem tf64 : TFact Try.prog 64 (.one) := (inferInstance : TOne Try.prog 64)
theorem tf65 : TFact Try.prog 65 (.int .u64) := ⟨inferInstance, inferInstance⟩
theorem tf66 : TFact Try.prog 66 (.int .u64) := ⟨inferInstance, inferInstance⟩
theorem tf67 : TFact Try.prog 67 (.one) := (inferInstance : TOne Try.prog 67)
theorem tf68 : TFact Try.prog 68 (.one) := (inferInstance : TOne Try.prog 68)
theorem tf69 : TFact Try.prog 69 (.one) := (inferInstance : TOne Try.prog 69)
theorem tf70 : TFact Try.prog 70 (.one) := (inferInstance : TOne Try.prog 70)
theorem tf71 : TFact Try.prog 71 (.one) := (inferInstance : TOne Try.prog 71)
theorem tf72 : TFact Try.prog 72 (.one) := (inferInstance : TOne Try.prog 72)
theorem tf73 : TFact Try.prog 73 (.one) := (inferInstance : TOne Try.prog 73)
theorem tf74 : TFact Try.prog 74 (.one) := (inferInstance : TOne Try.prog 74)
theorem tf75 : TFact Try.prog 75 (.one) := (inferInstance : TOne Try.prog 75)
theorem tf76 : TFact Try.prog 76 (.one) := (inferInstance : TOne Try.prog 76)
theorem tf77 : TFact Try.prog 77 (.st 4 [(0, 1, false), (1, 1, false), (2, 1, false), (3, 1, false)] none) := ⟨inferInstance, fun i off n ag h => by
    match i, h with
    | 0, h => cases h; infer_instance
    | 1, h => cases h; infer_instance
    | 2, h => cases h; infer_instance
    | 3, h => cases h; infer_instance
    | j + 4, h => simp at h, inferInstance, fun k h => by
    cases h⟩
theorem tf78 : TFact Try.prog 78 (.st 4 [(0, 1, false), (1, 1, false), (2, 1, false), (3, 1, false)] none) := ⟨inferInstance, fun i off n ag h => by
    match i, h with
    | 0, h => cases h; infer_instance
    | 1, h => cases h; infer_instance
    | 2, h => cases h; infer_instance
    | 3, h => cases h; infer_instance
    | j + 4, h => simp at h, inferInstance, fun k h => by
    cases h⟩
theorem tf82 : TFact Try.prog 82 (.one) := (inferInstance : TOne Try.prog 82)
theorem tf83 : TFact Try.prog 83 (.int .u8) := ⟨inferInstance, inferInstance⟩
theorem tf84 : TFact Try.prog 84 (.int .u8) := ⟨inferInstance, inferInstance⟩
theorem tf85 : TFact Try.prog 85 (.one) := (inferInstance : TOne Try.prog 85)
theorem tf86 : TFact Try.prog 86 (.one) := (inferInstance : TOne Try.prog 86)
theorem tf87 : TFact Try.prog 87 (.int .i32) := ⟨inferInstance, inferInstance⟩
theorem tf88 : TFact Try.prog 88 (.int .i32) := ⟨inferInstance, inferInstance⟩
theorem tf89 : TFact Try.prog 89 (.st 11 [(0, 1, false), (1, 1, false), (2, 1, false), (3, 1, false), (4, 1, false), (5, 1, false), (6, 1, false), (7, 1, false), (8, 1, false), (9, 1, false), (10, 1, false)] none) := ⟨inferInstance, fun i off n ag h => by
    match i, h with
    | 0, h => cases h; infer_instance
    | 1, h => cases h; infer_instance
    | 2, h => cases h; infer_instance
    | 3, h => cases h; infer_instance
    | 4, h => cases h; infer_instance
    | 5, h => cases h; infer_instance
    | 6, h => cases h; infer_instance
    | 7, h => cases h; infer_instance
    | 8, h => cases h; infer_instance
    | 9, h => cases h; infer_instance
    | 10, h => cases h; infer_instance
    | j + 11, h => simp at h, inferInstance, fun k h => by
    cases h⟩
theorem tf90 : TFact Try.prog 90 (.st 11 [(0, 1, false), (1, 1, false), (2, 1, false), (3, 1, false), (4, 1, false), (5, 1, false), (6, 1, false), (7, 1, false), (8, 1, false), (9, 1, false), (10, 1, false)] none) := ⟨inferInstance, fun i off n ag h => by
    match i, h with
    | 0, h => cases h; infer_instance
    | 1, h => cases h; infer_instance
    | 2, h => cases h; infer_instance
    | 3, h => cases h; infer_instance
    | 4, h => cases h; infer_instance
    | 5, h => cases h; infer_instance
    | 6, h => cases h; infer_instance
    | 7, h => cases h; infer_instance
    | 8, h => cases h; infer_instance
    | 9, h => cases h; infer_instance
    | 10, h => cases h; infer_instance
    | j + 11, h => simp at h, inferInstance, fun k h => by
    cases h⟩
theorem tf91 : TFact Try.prog 91 (.one) := (inferInstance : TOne Try.prog 91)
def TAB : List (Nat × TI) := [(0, .one), (1, .one), (2, .int .i64), (3, .int .i64), (4, .bool), (5, .int .u8), (6, .int .u8), (7, .st 4 [(0, 1, false), (1, 1, false), (2, 1, false), (3, 1, false)] (some [0, 0, 2, 0])), (8, .st 4 [(0, 1, false), (1, 1, false), (2, 1, false), (3, 1, false)] (some [0, 0, 2, 0])), (9, .str), (10, .str), (11, .str), (12, .int .u64), (13, .st 2 [(0, 1, false), (1, 1, false)] none), (14, .st 2 [(0, 1, false), (1, 1, false)] none), (15, .one), (16, .one), (17, .one), (18, .st 1 [(0, 1, false)] none), (19, .st 1 [(0, 1, false)] none), (20, .one), (21, .int .i32), (22, .st 2 [(0, 1, false), (1, 1, false)] (some [0, 0])), (23, .st 2 [(0, 1, false), (1, 1, false)] (some [0, 0])), (24, .sl 3 1 8 [.int .i64 0]), (25, .sl 42 2 16 [.int .i64 0, .int .i64 0]), (26, .int .i64), (27, .one), (28, .one), (29, .one), (30, .one), (31, .one), (32, .one), (33, .one), (34, .one), (35, .one), (36, .one), (37, .one), (38, .one), (39, .one), (40, .one), (41, .st 2 [(0, 1, false), (1, 1, false)] (some [0, 0])), (42, .st 2 [(0, 1, false), (1, 1, false)] (some [0, 0])), (43, .one), (44, .one), (45, .one), (46, .one), (47, .one), (48, .one), (49, .one), (50, .int .u64), (51, .one), (52, .one), (53, .one), (54, .int .i64), (55, .one), (56, .one), (57, .one), (58, .one), (59, .one), (60, .one), (61, .one), (62, .one), (63, .int .u32), (64, .one), (65, .int .u64), (66, .int .u64), (67, .one), (68, .one), (69, .one), (70, .one), (71, .one), (72, .one), (73, .one), (74, .one), (75, .one), (76, .one), (77, .st 4 [(0, 1, false), (1, 1, false), (2, 1, false), (3, 1, false)] none), (78, .st 4 [(0, 1, false), (1, 1, false), (2, 1, false), (3, 1, false)] none), (82, .one), (83, .int .u8), (84, .int .u8), (85, .one), (86, .one), (87, .int .i32), (88, .int .i32), (89, .st 11 [(0, 1, false), (1, 1, false), (2, 1, false), (3, 1, false), (4, 1, false), (5, 1, false), (6, 1, false), (7, 1, false), (8, 1, false), (9, 1, false), (10, 1, false)] none), (90, .st 11 [(0, 1, false), (1, 1, false), (2, 1, false), (3, 1, false), (4, 1, false), (5, 1, false), (6, 1, false), (7, 1, false), (8, 1, false), (9, 1, false), (10, 1, false)] none), (91, .one)]
def ZAB : List (Nat × List Value) := [(1, [.nilFunc]), (2, [.int .i64 0]), (3, [.int .i64 0]), (4, [.bool false]), (5, [.int .u8 0]), (6, [.int .u8 0]), (7, [.int .i64 0, .int .i64 0, .bool false, .int .u8 0]), (8, [.int .i64 0, .int .i64 0, .bool false, .int .u8 0]), (9, [.string ⟨#[]⟩]), (10, [.string ⟨#[]⟩]), (11, [.string ⟨#[]⟩]), (12, [.int .u64 0]), (13, [.string ⟨#[]⟩, .int .u64 0]), (14, [.string ⟨#[]⟩, .int .u64 0]), (15, [.pointer none]), (16, [.pointer none]), (17, [.pointer none]), (18, [.pointer none]), (19, [.pointer none]), (20, [.nilIface]), (21, [.int .i32 0]), (22, [.int .i64 0, .int .i64 0]), (23, [.int .i64 0, .int .i64 0]), (24, [.slice none 0 0]), (25, [.slice none 0 0]), (26, [.int .i64 0]), (28, [.nilFunc]), (29, [.nilFunc]), (30, [.nilFunc]), (31, [.nilFunc]), (32, [.nilFunc]), (33, [.nilFunc]), (34, [.nilFunc]), (35, [.nilFunc]), (37, [.nilFunc]), (38, [.nilFunc]), (39, [.nilFunc]), (40, [.nilFunc]), (41, [.int .i64 0, .int .i64 0]), (42, [.int .i64 0, .int .i64 0]), (43, [.nilFunc]), (44, [.nilFunc]), (45, [.nilFunc]), (46, [.nilFunc]), (47, [.nilFunc]), (48, [.nilFunc]), (49, [.nilFunc]), (50, [.int .u64 0]), (51, [.nilFunc]), (52, [.nilFunc]), (53, [.nilFunc]), (54, [.int .i64 0]), (56, [.nilFunc]), (57, [.nilFunc]), (58, [.nilFunc]), (59, [.nilFunc]), (61, [.nilFunc]), (62, [.nilFunc]), (63, [.int .u32 0]), (64, [.nilFunc]), (65, [.int .u64 0]), (66, [.int .u64 0]), (67, [.nilFunc]), (68, [.nilFunc]), (69, [.nilFunc]), (70, [.pointer none]), (71, [.nilFunc]), (72, [.nilFunc]), (73, [.pointer none]), (75, [.nilFunc]), (76, [.nilFunc]), (77, [.pointer none, .pointer none, .pointer none, .string ⟨#[]⟩]), (78, [.pointer none, .pointer none, .pointer none, .string ⟨#[]⟩]), (82, [.nilFunc]), (83, [.int .u8 0]), (84, [.int .u8 0]), (85, [.nilFunc]), (86, [.pointer none]), (87, [.int .i32 0]), (88, [.int .i32 0]), (89, [.int .u64 0, .int .u64 0, .int .u32 0, .int .u8 0, .int .u8 0, .int .u8 0, .int .u8 0, .nilFunc, .pointer none, .int .i32 0, .int .i32 0]), (90, [.int .u64 0, .int .u64 0, .int .u32 0, .int .u8 0, .int .u8 0, .int .u8 0, .int .u8 0, .nilFunc, .pointer none, .int .i32 0, .int .i32 0])]
def T : Nat → Option TI := lookT TAB
def Z : Nat → Option (List Value) := lookT ZAB
theorem hT : TOk Try.prog T Z := by
  refine ⟨fun t i h => ?_, fun t z h => ?_⟩
  · have hall : ∀ x ∈ TAB, TFact Try.prog x.1 x.2 := by
      unfold TAB
      simp only [List.forall_mem_cons]
      exact ⟨tf0, tf1, tf2, tf3, tf4, tf5, tf6, tf7, tf8, tf9, tf10, tf11, tf12, tf13, tf14, tf15, tf16, tf17, tf18, tf19, tf20, tf21, tf22, tf23, tf24, tf25, tf26, tf27, tf28, tf29, tf30, tf31, tf32, tf33, tf34, tf35, tf36, tf37, tf38, tf39, tf40, tf41, tf42, tf43, tf44, tf45, tf46, tf47, tf48, tf49, tf50, tf51, tf52, tf53, tf54, tf55, tf56, tf57, tf58, tf59, tf60, tf61, tf62, tf63, tf64, tf65, tf66, tf67, tf68, tf69, tf70, tf71, tf72, tf73, tf74, tf75, tf76, tf77, tf78, tf82, tf83, tf84, tf85, tf86, tf87, tf88, tf89, tf90, tf91, fun x hx => by cases hx⟩
    exact hall _ (lookT_mem h)
  · have hall : ∀ x ∈ ZAB, TZer Try.prog x.1 x.2 := by
      unfold ZAB
      simp only [List.forall_mem_cons]
      exact ⟨inferInstance, inferInstance, inferInstance, inferInstance, inferInstance, inferInstance, inferInstance, inferInstance, inferInstance, inferInstance, inferInstance, inferInstance, inferInstance, inferInstance, inferInstance, inferInstance, inferInstance, inferInstance, inferInstance, inferInstance, inferInstance, inferInstance, inferInstance, inferInstance, inferInstance, inferInstance, inferInstance, inferInstance, inferInstance, inferInstance, inferInstance, inferInstance, inferInstance, inferInstance, inferInstance, inferInstance, inferInstance, inferInstance, inferInstance, inferInstance, inferInstance, inferInstance, inferInstance, inferInstance, inferInstance, inferInstance, inferInstance, inferInstance, inferInstance, inferInstance, inferInstance, inferInstance, inferInstance, inferInstance, inferInstance, inferInstance, inferInstance, inferInstance, inferInstance, inferInstance, inferInstance, inferInstance, inferInstance, inferInstance, inferInstance, inferInstance, inferInstance, inferInstance, inferInstance, inferInstance, inferInstance, inferInstance, inferInstance, inferInstance, inferInstance, inferInstance, inferInstance, inferInstance, inferInstance, inferInstance, inferInstance, inferInstance, fun x hx => by cases hx⟩
    exact hall _ (lookT_mem h)
theorem hM : Try.prog.follows .mixedOrders = true := by kernel_rfl
end Go.Proofs.Ytdopillligfdiaa
