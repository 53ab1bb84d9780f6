/- The element types of slices. (Written by wip/inst.py.). -/
import Derived.Test.YtkjgmjocikmplaaGreatDoorZ1
import Derived.Test.YtkjgmjocikmplaaGreatDoorZ9
namespace Go.Proofs.YtkjgmjocikmplaaGreatDoor
theorem elm5 : ((Tryz.prog.info? 5).map fun i => (i.zero.map (·.cells.toList), i.size, i.bytes)) = some (some [.int .u8 0], 1, 1) := by kernel_rfl
instance : TElem Tryz.prog 5 1 1 [.int .u8 0] := TElem.of elm5 rfl (by decide)
theorem elm9 : ((Tryz.prog.info? 9).map fun i => (i.zero.map (·.cells.toList), i.size, i.bytes)) = some (some [.string ⟨#[]⟩], 1, 16) := by kernel_rfl
instance : TElem Tryz.prog 9 1 16 [.string ⟨#[]⟩] := TElem.of elm9 rfl (by decide)
theorem elm22 : ((Tryz.prog.info? 22).map fun i => (i.zero.map (·.cells.toList), i.size, i.bytes)) = some (some [.slice none 0 0], 1, 24) := by kernel_rfl
instance : TElem Tryz.prog 22 1 24 [.slice none 0 0] := TElem.of elm22 rfl (by decide)
instance : TEq Tryz.prog 7 [0, 0, 2, 0] := ⟨by kernel_rfl, by kernel_rfl, by kernel_rfl, by kernel_rfl⟩
instance : TEq Tryz.prog 8 [0, 0, 2, 0] := ⟨by kernel_rfl, by kernel_rfl, by kernel_rfl, by kernel_rfl⟩
instance : TEq Tryz.prog 23 [0, 1, 0] := ⟨by kernel_rfl, by kernel_rfl, by kernel_rfl, by kernel_rfl⟩
instance : TEq Tryz.prog 24 [0, 1, 0] := ⟨by kernel_rfl, by kernel_rfl, by kernel_rfl, by kernel_rfl⟩
instance : TEq Tryz.prog 54 [0, 0] := ⟨by kernel_rfl, by kernel_rfl, by kernel_rfl, by kernel_rfl⟩
instance : TEq Tryz.prog 55 [0, 0] := ⟨by kernel_rfl, by kernel_rfl, by kernel_rfl, by kernel_rfl⟩
instance : TEq Tryz.prog 132 [0, 0] := ⟨by kernel_rfl, by kernel_rfl, by kernel_rfl, by kernel_rfl⟩
instance : TEq Tryz.prog 133 [0, 0] := ⟨by kernel_rfl, by kernel_rfl, by kernel_rfl, by kernel_rfl⟩
instance : TEq Tryz.prog 138 [1] := ⟨by kernel_rfl, by kernel_rfl, by kernel_rfl, by kernel_rfl⟩
instance : TEq Tryz.prog 139 [1] := ⟨by kernel_rfl, by kernel_rfl, by kernel_rfl, by kernel_rfl⟩
end Go.Proofs.YtkjgmjocikmplaaGreatDoor
