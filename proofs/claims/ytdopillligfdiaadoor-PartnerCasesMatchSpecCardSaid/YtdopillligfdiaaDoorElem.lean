/- The element types of slices. (Written by wip/inst.py.) -/
import Derived.Test.YtdopillligfdiaaDoorEq
import Derived.Test.YtdopillligfdiaaDoorInst
namespace Go.Proofs.YtdopillligfdiaaDoor
theorem elm3 : ((Tryd.prog.info? 3).map fun i => (i.zero.map (·.cells.toList), i.size, i.bytes)) = some (some [.int .i64 0], 1, 8) := by kernel_rfl
instance : TElem Tryd.prog 3 1 8 [.int .i64 0] := TElem.of elm3 rfl (by decide)
theorem elm5 : ((Tryd.prog.info? 5).map fun i => (i.zero.map (·.cells.toList), i.size, i.bytes)) = some (some [.int .u8 0], 1, 1) := by kernel_rfl
instance : TElem Tryd.prog 5 1 1 [.int .u8 0] := TElem.of elm5 rfl (by decide)
theorem elm9 : ((Tryd.prog.info? 9).map fun i => (i.zero.map (·.cells.toList), i.size, i.bytes)) = some (some [.string ⟨#[]⟩], 1, 16) := by kernel_rfl
instance : TElem Tryd.prog 9 1 16 [.string ⟨#[]⟩] := TElem.of elm9 rfl (by decide)
theorem elm23 : ((Tryd.prog.info? 23).map fun i => (i.zero.map (·.cells.toList), i.size, i.bytes)) = some (some [.string ⟨#[]⟩, .string ⟨#[]⟩, .string ⟨#[]⟩, .string ⟨#[]⟩, .int .i64 0, .int .i64 0, .bool false, .int .i64 0, .bool false], 9, 104) := by kernel_rfl
instance : TElem Tryd.prog 23 9 104 [.string ⟨#[]⟩, .string ⟨#[]⟩, .string ⟨#[]⟩, .string ⟨#[]⟩, .int .i64 0, .int .i64 0, .bool false, .int .i64 0, .bool false] := TElem.of elm23 rfl (by decide)
theorem elm31 : ((Tryd.prog.info? 31).map fun i => (i.zero.map (·.cells.toList), i.size, i.bytes)) = some (some [.string ⟨#[]⟩, .string ⟨#[]⟩], 2, 32) := by kernel_rfl
instance : TElem Tryd.prog 31 2 32 [.string ⟨#[]⟩, .string ⟨#[]⟩] := TElem.of elm31 rfl (by decide)
theorem elm48 : ((Tryd.prog.info? 48).map fun i => (i.zero.map (·.cells.toList), i.size, i.bytes)) = some (some [.int .i64 0, .int .i64 0], 2, 16) := by kernel_rfl
instance : TElem Tryd.prog 48 2 16 [.int .i64 0, .int .i64 0] := TElem.of elm48 rfl (by decide)
theorem elm50 : ((Tryd.prog.info? 50).map fun i => (i.zero.map (·.cells.toList), i.size, i.bytes)) = some (some [.int .i64 0, .int .i64 0, .string ⟨#[]⟩], 3, 32) := by kernel_rfl
instance : TElem Tryd.prog 50 3 32 [.int .i64 0, .int .i64 0, .string ⟨#[]⟩] := TElem.of elm50 rfl (by decide)
theorem elm68 : ((Tryd.prog.info? 68).map fun i => (i.zero.map (·.cells.toList), i.size, i.bytes)) = some (some [.int .i64 0, .int .i64 0], 2, 16) := by kernel_rfl
instance : TElem Tryd.prog 68 2 16 [.int .i64 0, .int .i64 0] := TElem.of elm68 rfl (by decide)
theorem elm79 : ((Tryd.prog.info? 79).map fun i => (i.zero.map (·.cells.toList), i.size, i.bytes)) = some (some [.slice none 0 0], 1, 24) := by kernel_rfl
instance : TElem Tryd.prog 79 1 24 [.slice none 0 0] := TElem.of elm79 rfl (by decide)
theorem elm95 : ((Tryd.prog.info? 95).map fun i => (i.zero.map (·.cells.toList), i.size, i.bytes)) = some (some [.string ⟨#[]⟩, .slice none 0 0], 2, 40) := by kernel_rfl
instance : TElem Tryd.prog 95 2 40 [.string ⟨#[]⟩, .slice none 0 0] := TElem.of elm95 rfl (by decide)
theorem elm117 : ((Tryd.prog.info? 117).map fun i => (i.zero.map (·.cells.toList), i.size, i.bytes)) = some (some [.int .i64 0, .int .i64 0], 2, 16) := by kernel_rfl
instance : TElem Tryd.prog 117 2 16 [.int .i64 0, .int .i64 0] := TElem.of elm117 rfl (by decide)
end Go.Proofs.YtdopillligfdiaaDoor
