/- The element types of slices. (Written by wip/inst.py.). -/
import Derived.Test.YthbhjladfniboaaDoorZ1
import Derived.Test.YthbhjladfniboaaDoorZ2
namespace Go.Proofs.YthbhjladfniboaaDoor
theorem elm3 : ((Tryd.prog.info? 3).map fun i => (i.zero.map (·.cells.toList), i.size, i.bytes)) = some (some [.int .i64 0], 1, 8) := by kernel_rfl
instance : TElem Tryd.prog 3 1 8 [.int .i64 0] := TElem.of elm3 rfl (by decide)
theorem elm5 : ((Tryd.prog.info? 5).map fun i => (i.zero.map (·.cells.toList), i.size, i.bytes)) = some (some [.int .u8 0], 1, 1) := by kernel_rfl
instance : TElem Tryd.prog 5 1 1 [.int .u8 0] := TElem.of elm5 rfl (by decide)
theorem elm9 : ((Tryd.prog.info? 9).map fun i => (i.zero.map (·.cells.toList), i.size, i.bytes)) = some (some [.string ⟨#[]⟩], 1, 16) := by kernel_rfl
instance : TElem Tryd.prog 9 1 16 [.string ⟨#[]⟩] := TElem.of elm9 rfl (by decide)
theorem elm31 : ((Tryd.prog.info? 31).map fun i => (i.zero.map (·.cells.toList), i.size, i.bytes)) = some (some [.int .i64 0, .int .i64 0], 2, 16) := by kernel_rfl
instance : TElem Tryd.prog 31 2 16 [.int .i64 0, .int .i64 0] := TElem.of elm31 rfl (by decide)
theorem elm33 : ((Tryd.prog.info? 33).map fun i => (i.zero.map (·.cells.toList), i.size, i.bytes)) = some (some [.int .i64 0, .int .i64 0, .string ⟨#[]⟩], 3, 32) := by kernel_rfl
instance : TElem Tryd.prog 33 3 32 [.int .i64 0, .int .i64 0, .string ⟨#[]⟩] := TElem.of elm33 rfl (by decide)
theorem elm47 : ((Tryd.prog.info? 47).map fun i => (i.zero.map (·.cells.toList), i.size, i.bytes)) = some (some [.int .i64 0, .int .i64 0], 2, 16) := by kernel_rfl
instance : TElem Tryd.prog 47 2 16 [.int .i64 0, .int .i64 0] := TElem.of elm47 rfl (by decide)
theorem elm58 : ((Tryd.prog.info? 58).map fun i => (i.zero.map (·.cells.toList), i.size, i.bytes)) = some (some [.string ⟨#[]⟩, .string ⟨#[]⟩, .string ⟨#[]⟩, .string ⟨#[]⟩, .int .i64 0, .int .i64 0, .bool false, .int .i64 0, .bool false], 9, 104) := by kernel_rfl
instance : TElem Tryd.prog 58 9 104 [.string ⟨#[]⟩, .string ⟨#[]⟩, .string ⟨#[]⟩, .string ⟨#[]⟩, .int .i64 0, .int .i64 0, .bool false, .int .i64 0, .bool false] := TElem.of elm58 rfl (by decide)
theorem elm60 : ((Tryd.prog.info? 60).map fun i => (i.zero.map (·.cells.toList), i.size, i.bytes)) = some (some [.slice none 0 0], 1, 24) := by kernel_rfl
instance : TElem Tryd.prog 60 1 24 [.slice none 0 0] := TElem.of elm60 rfl (by decide)
theorem elm86 : ((Tryd.prog.info? 86).map fun i => (i.zero.map (·.cells.toList), i.size, i.bytes)) = some (some [.int .i64 0, .int .i64 0], 2, 16) := by kernel_rfl
instance : TElem Tryd.prog 86 2 16 [.int .i64 0, .int .i64 0] := TElem.of elm86 rfl (by decide)
theorem elm145 : ((Tryd.prog.info? 145).map fun i => (i.zero.map (·.cells.toList), i.size, i.bytes)) = some (some [.string ⟨#[]⟩, .slice none 0 0], 2, 40) := by kernel_rfl
instance : TElem Tryd.prog 145 2 40 [.string ⟨#[]⟩, .slice none 0 0] := TElem.of elm145 rfl (by decide)
theorem elm147 : ((Tryd.prog.info? 147).map fun i => (i.zero.map (·.cells.toList), i.size, i.bytes)) = some (some [.string ⟨#[]⟩, .string ⟨#[]⟩], 2, 32) := by kernel_rfl
instance : TElem Tryd.prog 147 2 32 [.string ⟨#[]⟩, .string ⟨#[]⟩] := TElem.of elm147 rfl (by decide)
instance : TEq Tryd.prog 7 [0, 0, 2, 0] := ⟨by kernel_rfl, by kernel_rfl, by kernel_rfl, by kernel_rfl⟩
instance : TEq Tryd.prog 8 [0, 0, 2, 0] := ⟨by kernel_rfl, by kernel_rfl, by kernel_rfl, by kernel_rfl⟩
instance : TEq Tryd.prog 22 [0, 0] := ⟨by kernel_rfl, by kernel_rfl, by kernel_rfl, by kernel_rfl⟩
instance : TEq Tryd.prog 23 [0, 0] := ⟨by kernel_rfl, by kernel_rfl, by kernel_rfl, by kernel_rfl⟩
instance : TEq Tryd.prog 30 [0, 0] := ⟨by kernel_rfl, by kernel_rfl, by kernel_rfl, by kernel_rfl⟩
instance : TEq Tryd.prog 31 [0, 0] := ⟨by kernel_rfl, by kernel_rfl, by kernel_rfl, by kernel_rfl⟩
instance : TEq Tryd.prog 32 [0, 0, 1] := ⟨by kernel_rfl, by kernel_rfl, by kernel_rfl, by kernel_rfl⟩
instance : TEq Tryd.prog 33 [0, 0, 1] := ⟨by kernel_rfl, by kernel_rfl, by kernel_rfl, by kernel_rfl⟩
instance : TEq Tryd.prog 46 [0, 0] := ⟨by kernel_rfl, by kernel_rfl, by kernel_rfl, by kernel_rfl⟩
instance : TEq Tryd.prog 47 [0, 0] := ⟨by kernel_rfl, by kernel_rfl, by kernel_rfl, by kernel_rfl⟩
instance : TEq Tryd.prog 54 [1, 1, 1, 1, 0, 2] := ⟨by kernel_rfl, by kernel_rfl, by kernel_rfl, by kernel_rfl⟩
instance : TEq Tryd.prog 55 [1, 1, 1, 1, 0, 2] := ⟨by kernel_rfl, by kernel_rfl, by kernel_rfl, by kernel_rfl⟩
instance : TEq Tryd.prog 57 [1, 1, 1, 1, 0, 0, 2, 0, 2] := ⟨by kernel_rfl, by kernel_rfl, by kernel_rfl, by kernel_rfl⟩
instance : TEq Tryd.prog 58 [1, 1, 1, 1, 0, 0, 2, 0, 2] := ⟨by kernel_rfl, by kernel_rfl, by kernel_rfl, by kernel_rfl⟩
instance : TEq Tryd.prog 61 [0, 1, 0] := ⟨by kernel_rfl, by kernel_rfl, by kernel_rfl, by kernel_rfl⟩
instance : TEq Tryd.prog 62 [0, 1, 0] := ⟨by kernel_rfl, by kernel_rfl, by kernel_rfl, by kernel_rfl⟩
instance : TEq Tryd.prog 85 [0, 0] := ⟨by kernel_rfl, by kernel_rfl, by kernel_rfl, by kernel_rfl⟩
instance : TEq Tryd.prog 86 [0, 0] := ⟨by kernel_rfl, by kernel_rfl, by kernel_rfl, by kernel_rfl⟩
instance : TEq Tryd.prog 146 [1, 1] := ⟨by kernel_rfl, by kernel_rfl, by kernel_rfl, by kernel_rfl⟩
instance : TEq Tryd.prog 147 [1, 1] := ⟨by kernel_rfl, by kernel_rfl, by kernel_rfl, by kernel_rfl⟩
instance : TEq Tryd.prog 219 [0, 0] := ⟨by kernel_rfl, by kernel_rfl, by kernel_rfl, by kernel_rfl⟩
instance : TEq Tryd.prog 220 [0, 0] := ⟨by kernel_rfl, by kernel_rfl, by kernel_rfl, by kernel_rfl⟩
instance : TEq Tryd.prog 236 [1] := ⟨by kernel_rfl, by kernel_rfl, by kernel_rfl, by kernel_rfl⟩
instance : TEq Tryd.prog 237 [1] := ⟨by kernel_rfl, by kernel_rfl, by kernel_rfl, by kernel_rfl⟩
instance : TMap Tryd.prog 71 3 3 (.int .i64) := ⟨Tryd.underlying71, Tryd.underlying3⟩
instance : TZ1 Tryd.prog 3 (.int .i64 0) := ⟨by kernel_rfl⟩
instance : TMap Tryd.prog 142 147 4 (.st [1, 1]) := ⟨Tryd.underlying142, (inferInstance : TEq Tryd.prog 147 [1, 1])⟩
instance : TZ1 Tryd.prog 4 (.bool false) := ⟨by kernel_rfl⟩
end Go.Proofs.YthbhjladfniboaaDoor
