/- The element types of slices. (Written by wip/inst.py.). -/
import Derived.Test.YthbhjladfniboaaGreatDoorZ1
import Derived.Test.YthbhjladfniboaaGreatDoorZ2
namespace Go.Proofs.YthbhjladfniboaaGreatDoor
theorem elm3 : ((Tryz.prog.info? 3).map fun i => (i.zero.map (·.cells.toList), i.size, i.bytes)) = some (some [.int .i64 0], 1, 8) := by kernel_rfl
instance : TElem Tryz.prog 3 1 8 [.int .i64 0] := TElem.of elm3 rfl (by decide)
theorem elm5 : ((Tryz.prog.info? 5).map fun i => (i.zero.map (·.cells.toList), i.size, i.bytes)) = some (some [.int .u8 0], 1, 1) := by kernel_rfl
instance : TElem Tryz.prog 5 1 1 [.int .u8 0] := TElem.of elm5 rfl (by decide)
theorem elm9 : ((Tryz.prog.info? 9).map fun i => (i.zero.map (·.cells.toList), i.size, i.bytes)) = some (some [.string ⟨#[]⟩], 1, 16) := by kernel_rfl
instance : TElem Tryz.prog 9 1 16 [.string ⟨#[]⟩] := TElem.of elm9 rfl (by decide)
theorem elm35 : ((Tryz.prog.info? 35).map fun i => (i.zero.map (·.cells.toList), i.size, i.bytes)) = some (some [.slice none 0 0], 1, 24) := by kernel_rfl
instance : TElem Tryz.prog 35 1 24 [.slice none 0 0] := TElem.of elm35 rfl (by decide)
theorem elm52 : ((Tryz.prog.info? 52).map fun i => (i.zero.map (·.cells.toList), i.size, i.bytes)) = some (some [.string ⟨#[]⟩, .string ⟨#[]⟩, .string ⟨#[]⟩, .string ⟨#[]⟩, .int .i64 0, .int .i64 0, .bool false, .int .i64 0, .bool false], 9, 104) := by kernel_rfl
instance : TElem Tryz.prog 52 9 104 [.string ⟨#[]⟩, .string ⟨#[]⟩, .string ⟨#[]⟩, .string ⟨#[]⟩, .int .i64 0, .int .i64 0, .bool false, .int .i64 0, .bool false] := TElem.of elm52 rfl (by decide)
theorem elm111 : ((Tryz.prog.info? 111).map fun i => (i.zero.map (·.cells.toList), i.size, i.bytes)) = some (some [.string ⟨#[]⟩, .slice none 0 0], 2, 40) := by kernel_rfl
instance : TElem Tryz.prog 111 2 40 [.string ⟨#[]⟩, .slice none 0 0] := TElem.of elm111 rfl (by decide)
theorem elm120 : ((Tryz.prog.info? 120).map fun i => (i.zero.map (·.cells.toList), i.size, i.bytes)) = some (some [.string ⟨#[]⟩, .string ⟨#[]⟩], 2, 32) := by kernel_rfl
instance : TElem Tryz.prog 120 2 32 [.string ⟨#[]⟩, .string ⟨#[]⟩] := TElem.of elm120 rfl (by decide)
instance : TEq Tryz.prog 7 [0, 0, 2, 0] := ⟨by kernel_rfl, by kernel_rfl, by kernel_rfl, by kernel_rfl⟩
instance : TEq Tryz.prog 8 [0, 0, 2, 0] := ⟨by kernel_rfl, by kernel_rfl, by kernel_rfl, by kernel_rfl⟩
instance : TEq Tryz.prog 24 [1, 1, 1, 1, 0, 2] := ⟨by kernel_rfl, by kernel_rfl, by kernel_rfl, by kernel_rfl⟩
instance : TEq Tryz.prog 25 [1, 1, 1, 1, 0, 2] := ⟨by kernel_rfl, by kernel_rfl, by kernel_rfl, by kernel_rfl⟩
instance : TEq Tryz.prog 36 [0, 1, 0] := ⟨by kernel_rfl, by kernel_rfl, by kernel_rfl, by kernel_rfl⟩
instance : TEq Tryz.prog 37 [0, 1, 0] := ⟨by kernel_rfl, by kernel_rfl, by kernel_rfl, by kernel_rfl⟩
instance : TEq Tryz.prog 51 [1, 1, 1, 1, 0, 0, 2, 0, 2] := ⟨by kernel_rfl, by kernel_rfl, by kernel_rfl, by kernel_rfl⟩
instance : TEq Tryz.prog 52 [1, 1, 1, 1, 0, 0, 2, 0, 2] := ⟨by kernel_rfl, by kernel_rfl, by kernel_rfl, by kernel_rfl⟩
instance : TEq Tryz.prog 57 [0, 0] := ⟨by kernel_rfl, by kernel_rfl, by kernel_rfl, by kernel_rfl⟩
instance : TEq Tryz.prog 58 [0, 0] := ⟨by kernel_rfl, by kernel_rfl, by kernel_rfl, by kernel_rfl⟩
instance : TEq Tryz.prog 119 [1, 1] := ⟨by kernel_rfl, by kernel_rfl, by kernel_rfl, by kernel_rfl⟩
instance : TEq Tryz.prog 120 [1, 1] := ⟨by kernel_rfl, by kernel_rfl, by kernel_rfl, by kernel_rfl⟩
instance : TEq Tryz.prog 196 [0, 0] := ⟨by kernel_rfl, by kernel_rfl, by kernel_rfl, by kernel_rfl⟩
instance : TEq Tryz.prog 197 [0, 0] := ⟨by kernel_rfl, by kernel_rfl, by kernel_rfl, by kernel_rfl⟩
instance : TEq Tryz.prog 202 [1] := ⟨by kernel_rfl, by kernel_rfl, by kernel_rfl, by kernel_rfl⟩
instance : TEq Tryz.prog 203 [1] := ⟨by kernel_rfl, by kernel_rfl, by kernel_rfl, by kernel_rfl⟩
instance : TMap Tryz.prog 118 120 4 (.st [1, 1]) := ⟨Tryz.underlying118, (inferInstance : TEq Tryz.prog 120 [1, 1])⟩
instance : TZ1 Tryz.prog 4 (.bool false) := ⟨by kernel_rfl⟩
end Go.Proofs.YthbhjladfniboaaGreatDoor
