/- The element types of slices. (Written by wip/inst.py.) -/
import Derived.Test.YtdopillligfdiaaDoorMK
import Derived.Test.YtdopillligfdiaaDoorInst
namespace Go.Proofs.YtdopillligfdiaaDoor
theorem elm3 : ((Tryd.prog.info? 3).map fun i => (i.zero.map (·.cells.toList), i.size, i.bytes)) = some (some [.int .i64 0], 1, 8) := by kernel_rfl
instance : TElem Tryd.prog 3 1 8 [.int .i64 0] := TElem.of elm3 rfl (by decide)
theorem elm5 : ((Tryd.prog.info? 5).map fun i => (i.zero.map (·.cells.toList), i.size, i.bytes)) = some (some [.int .u8 0], 1, 1) := by kernel_rfl
instance : TElem Tryd.prog 5 1 1 [.int .u8 0] := TElem.of elm5 rfl (by decide)
theorem elm9 : ((Tryd.prog.info? 9).map fun i => (i.zero.map (·.cells.toList), i.size, i.bytes)) = some (some [.string ⟨#[]⟩], 1, 16) := by kernel_rfl
instance : TElem Tryd.prog 9 1 16 [.string ⟨#[]⟩] := TElem.of elm9 rfl (by decide)
theorem elm23 : ((Tryd.prog.info? 23).map fun i => (i.zero.map (·.cells.toList), i.size, i.bytes)) = some (some [.string ⟨#[]⟩, .string ⟨#[]⟩, .string ⟨#[]⟩, .string ⟨#[]⟩, .int .i64 0, .int .i64 0, .bool false, .int .i64 0, .bool false], 9, 104) := by kernel_rfl
instance : TElem Tryd.prog 23 9 104 [.string ⟨#[]⟩, .string ⟨#[]⟩, .string ⟨#[]⟩, .string ⟨#[]⟩, .int .i64 0, .int .i64 0, .bool false, .int .i64 0, .bool false] := TElem.of elm23 rfl (by decide)
theorem elm31 : ((Tryd.prog.info? 31).map fun i => (i.zero.map (·.cells.toList), i.size, i.bytes)) = some (some [.string ⟨#[]⟩, .string ⟨#[]⟩], 2, 32) := by kernel_rfl
instance : TElem Tryd.prog 31 2 32 [.string ⟨#[]⟩, .string ⟨#[]⟩] := TElem.of elm31 rfl (by decide)
theorem elm48 : ((Tryd.prog.info? 48).map fun i => (i.zero.map (·.cells.toList), i.size, i.bytes)) = some (some [.int .i64 0, .int .i64 0], 2, 16) := by kernel_rfl
instance : TElem Tryd.prog 48 2 16 [.int .i64 0, .int .i64 0] := TElem.of elm48 rfl (by decide)
theorem elm50 : ((Tryd.prog.info? 50).map fun i => (i.zero.map (·.cells.toList), i.size, i.bytes)) = some (some [.int .i64 0, .int .i64 0, .string ⟨#[]⟩], 3, 32) := by kernel_rfl
instance : TElem Tryd.prog 50 3 32 [.int .i64 0, .int .i64 0, .string ⟨#[]⟩] := TElem.of elm50 rfl (by decide)
theorem elm68 : ((Tryd.prog.info? 68).map fun i => (i.zero.map (·.cells.toList), i.size, i.bytes)) = some (some [.int .i64 0, .int .i64 0], 2, 16) := by kernel_rfl
instance : TElem Tryd.prog 68 2 16 [.int .i64 0, .int .i64 0] := TElem.of elm68 rfl (by decide)
theorem elm79 : ((Tryd.prog.info? 79).map fun i => (i.zero.map (·.cells.toList), i.size, i.bytes)) = some (some [.slice none 0 0], 1, 24) := by kernel_rfl
instance : TElem Tryd.prog 79 1 24 [.slice none 0 0] := TElem.of elm79 rfl (by decide)
theorem elm95 : ((Tryd.prog.info? 95).map fun i => (i.zero.map (·.cells.toList), i.size, i.bytes)) = some (some [.string ⟨#[]⟩, .slice none 0 0], 2, 40) := by kernel_rfl
instance : TElem Tryd.prog 95 2 40 [.string ⟨#[]⟩, .slice none 0 0] := TElem.of elm95 rfl (by decide)
theorem elm117 : ((Tryd.prog.info? 117).map fun i => (i.zero.map (·.cells.toList), i.size, i.bytes)) = some (some [.int .i64 0, .int .i64 0], 2, 16) := by kernel_rfl
instance : TElem Tryd.prog 117 2 16 [.int .i64 0, .int .i64 0] := TElem.of elm117 rfl (by decide)
instance : TEq Tryd.prog 7 [0, 0, 2, 0] := ⟨by kernel_rfl, by kernel_rfl, by kernel_rfl, by kernel_rfl⟩
instance : TEq Tryd.prog 8 [0, 0, 2, 0] := ⟨by kernel_rfl, by kernel_rfl, by kernel_rfl, by kernel_rfl⟩
instance : TEq Tryd.prog 22 [1, 1, 1, 1, 0, 0, 2, 0, 2] := ⟨by kernel_rfl, by kernel_rfl, by kernel_rfl, by kernel_rfl⟩
instance : TEq Tryd.prog 23 [1, 1, 1, 1, 0, 0, 2, 0, 2] := ⟨by kernel_rfl, by kernel_rfl, by kernel_rfl, by kernel_rfl⟩
instance : TEq Tryd.prog 30 [1, 1] := ⟨by kernel_rfl, by kernel_rfl, by kernel_rfl, by kernel_rfl⟩
instance : TEq Tryd.prog 31 [1, 1] := ⟨by kernel_rfl, by kernel_rfl, by kernel_rfl, by kernel_rfl⟩
instance : TEq Tryd.prog 36 [1, 1, 1, 1, 0, 2] := ⟨by kernel_rfl, by kernel_rfl, by kernel_rfl, by kernel_rfl⟩
instance : TEq Tryd.prog 37 [1, 1, 1, 1, 0, 2] := ⟨by kernel_rfl, by kernel_rfl, by kernel_rfl, by kernel_rfl⟩
instance : TEq Tryd.prog 41 [0, 0] := ⟨by kernel_rfl, by kernel_rfl, by kernel_rfl, by kernel_rfl⟩
instance : TEq Tryd.prog 42 [0, 0] := ⟨by kernel_rfl, by kernel_rfl, by kernel_rfl, by kernel_rfl⟩
instance : TEq Tryd.prog 47 [0, 0] := ⟨by kernel_rfl, by kernel_rfl, by kernel_rfl, by kernel_rfl⟩
instance : TEq Tryd.prog 48 [0, 0] := ⟨by kernel_rfl, by kernel_rfl, by kernel_rfl, by kernel_rfl⟩
instance : TEq Tryd.prog 49 [0, 0, 1] := ⟨by kernel_rfl, by kernel_rfl, by kernel_rfl, by kernel_rfl⟩
instance : TEq Tryd.prog 50 [0, 0, 1] := ⟨by kernel_rfl, by kernel_rfl, by kernel_rfl, by kernel_rfl⟩
instance : TEq Tryd.prog 67 [0, 0] := ⟨by kernel_rfl, by kernel_rfl, by kernel_rfl, by kernel_rfl⟩
instance : TEq Tryd.prog 68 [0, 0] := ⟨by kernel_rfl, by kernel_rfl, by kernel_rfl, by kernel_rfl⟩
instance : TEq Tryd.prog 80 [0, 1, 0] := ⟨by kernel_rfl, by kernel_rfl, by kernel_rfl, by kernel_rfl⟩
instance : TEq Tryd.prog 81 [0, 1, 0] := ⟨by kernel_rfl, by kernel_rfl, by kernel_rfl, by kernel_rfl⟩
instance : TEq Tryd.prog 116 [0, 0] := ⟨by kernel_rfl, by kernel_rfl, by kernel_rfl, by kernel_rfl⟩
instance : TEq Tryd.prog 117 [0, 0] := ⟨by kernel_rfl, by kernel_rfl, by kernel_rfl, by kernel_rfl⟩
instance : TEq Tryd.prog 242 [0, 0] := ⟨by kernel_rfl, by kernel_rfl, by kernel_rfl, by kernel_rfl⟩
instance : TEq Tryd.prog 243 [0, 0] := ⟨by kernel_rfl, by kernel_rfl, by kernel_rfl, by kernel_rfl⟩
instance : TEq Tryd.prog 256 [1] := ⟨by kernel_rfl, by kernel_rfl, by kernel_rfl, by kernel_rfl⟩
instance : TEq Tryd.prog 257 [1] := ⟨by kernel_rfl, by kernel_rfl, by kernel_rfl, by kernel_rfl⟩
instance : TMap Tryd.prog 92 31 4 (.st [1, 1]) := ⟨Tryd.underlying92, (inferInstance : TEq Tryd.prog 31 [1, 1])⟩
instance : TZ1 Tryd.prog 4 (.bool false) := ⟨by kernel_rfl⟩
instance : TMap Tryd.prog 103 3 3 (.int .i64) := ⟨Tryd.underlying103, Tryd.underlying3⟩
instance : TZ1 Tryd.prog 3 (.int .i64 0) := ⟨by kernel_rfl⟩
end Go.Proofs.YtdopillligfdiaaDoor
