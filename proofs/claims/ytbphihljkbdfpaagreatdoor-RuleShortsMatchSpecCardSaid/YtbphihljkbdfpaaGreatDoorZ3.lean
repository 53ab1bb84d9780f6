/- The element types of slices. (Written by wip/inst.py.). -/
import Derived.Test.YtbphihljkbdfpaaGreatDoorZ1
import Derived.Test.YtbphihljkbdfpaaGreatDoorZ2
namespace Go.Proofs.YtbphihljkbdfpaaGreatDoor
theorem elm3 : ((Tryz.prog.info? 3).map fun i => (i.zero.map (·.cells.toList), i.size, i.bytes)) = some (some [.int .i64 0], 1, 8) := by kernel_rfl
instance : TElem Tryz.prog 3 1 8 [.int .i64 0] := TElem.of elm3 rfl (by decide)
theorem elm4 : ((Tryz.prog.info? 4).map fun i => (i.zero.map (·.cells.toList), i.size, i.bytes)) = some (some [.bool false], 1, 1) := by kernel_rfl
instance : TElem Tryz.prog 4 1 1 [.bool false] := TElem.of elm4 rfl (by decide)
theorem elm5 : ((Tryz.prog.info? 5).map fun i => (i.zero.map (·.cells.toList), i.size, i.bytes)) = some (some [.int .u8 0], 1, 1) := by kernel_rfl
instance : TElem Tryz.prog 5 1 1 [.int .u8 0] := TElem.of elm5 rfl (by decide)
theorem elm9 : ((Tryz.prog.info? 9).map fun i => (i.zero.map (·.cells.toList), i.size, i.bytes)) = some (some [.string ⟨#[]⟩], 1, 16) := by kernel_rfl
instance : TElem Tryz.prog 9 1 16 [.string ⟨#[]⟩] := TElem.of elm9 rfl (by decide)
theorem elm26 : ((Tryz.prog.info? 26).map fun i => (i.zero.map (·.cells.toList), i.size, i.bytes)) = some (some [.int .i64 0, .slice none 0 0, .string ⟨#[]⟩, .slice none 0 0, .int .i64 0, .int .i64 0], 6, 88) := by kernel_rfl
instance : TElem Tryz.prog 26 6 88 [.int .i64 0, .slice none 0 0, .string ⟨#[]⟩, .slice none 0 0, .int .i64 0, .int .i64 0] := TElem.of elm26 rfl (by decide)
theorem elm66 : ((Tryz.prog.info? 66).map fun i => (i.zero.map (·.cells.toList), i.size, i.bytes)) = some (some [.int .i64 0, .int .i64 0, .slice none 0 0], 3, 40) := by kernel_rfl
instance : TElem Tryz.prog 66 3 40 [.int .i64 0, .int .i64 0, .slice none 0 0] := TElem.of elm66 rfl (by decide)
theorem elm67 : ((Tryz.prog.info? 67).map fun i => (i.zero.map (·.cells.toList), i.size, i.bytes)) = some (some [.slice none 0 0], 1, 24) := by kernel_rfl
instance : TElem Tryz.prog 67 1 24 [.slice none 0 0] := TElem.of elm67 rfl (by decide)
instance : TEq Tryz.prog 7 [0, 0, 2, 0] := ⟨by kernel_rfl, by kernel_rfl, by kernel_rfl, by kernel_rfl⟩
instance : TEq Tryz.prog 8 [0, 0, 2, 0] := ⟨by kernel_rfl, by kernel_rfl, by kernel_rfl, by kernel_rfl⟩
instance : TEq Tryz.prog 81 [0] := ⟨by kernel_rfl, by kernel_rfl, by kernel_rfl, by kernel_rfl⟩
instance : TEq Tryz.prog 82 [0] := ⟨by kernel_rfl, by kernel_rfl, by kernel_rfl, by kernel_rfl⟩
instance : TEq Tryz.prog 131 [2, 2, 2, 2] := ⟨by kernel_rfl, by kernel_rfl, by kernel_rfl, by kernel_rfl⟩
instance : TEq Tryz.prog 210 [0, 0] := ⟨by kernel_rfl, by kernel_rfl, by kernel_rfl, by kernel_rfl⟩
instance : TEq Tryz.prog 254 [1] := ⟨by kernel_rfl, by kernel_rfl, by kernel_rfl, by kernel_rfl⟩
end Go.Proofs.YtbphihljkbdfpaaGreatDoor
