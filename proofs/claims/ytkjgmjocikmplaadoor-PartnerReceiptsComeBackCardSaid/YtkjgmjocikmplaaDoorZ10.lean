/- The element types of slices. (Written by wip/inst.py.). -/
import Derived.Test.YtkjgmjocikmplaaDoorZ1
import Derived.Test.YtkjgmjocikmplaaDoorZ9
namespace Go.Proofs.YtkjgmjocikmplaaDoor
theorem elm5 : ((Tryd.prog.info? 5).map fun i => (i.zero.map (·.cells.toList), i.size, i.bytes)) = some (some [.int .u8 0], 1, 1) := by kernel_rfl
instance : TElem Tryd.prog 5 1 1 [.int .u8 0] := TElem.of elm5 rfl (by decide)
theorem elm9 : ((Tryd.prog.info? 9).map fun i => (i.zero.map (·.cells.toList), i.size, i.bytes)) = some (some [.string ⟨#[]⟩], 1, 16) := by kernel_rfl
instance : TElem Tryd.prog 9 1 16 [.string ⟨#[]⟩] := TElem.of elm9 rfl (by decide)
theorem elm22 : ((Tryd.prog.info? 22).map fun i => (i.zero.map (·.cells.toList), i.size, i.bytes)) = some (some [.slice none 0 0], 1, 24) := by kernel_rfl
instance : TElem Tryd.prog 22 1 24 [.slice none 0 0] := TElem.of elm22 rfl (by decide)
instance : TEq Tryd.prog 7 [0, 0, 2, 0] := ⟨by kernel_rfl, by kernel_rfl, by kernel_rfl, by kernel_rfl⟩
instance : TEq Tryd.prog 8 [0, 0, 2, 0] := ⟨by kernel_rfl, by kernel_rfl, by kernel_rfl, by kernel_rfl⟩
instance : TEq Tryd.prog 23 [0, 1, 0] := ⟨by kernel_rfl, by kernel_rfl, by kernel_rfl, by kernel_rfl⟩
instance : TEq Tryd.prog 24 [0, 1, 0] := ⟨by kernel_rfl, by kernel_rfl, by kernel_rfl, by kernel_rfl⟩
instance : TEq Tryd.prog 38 [0, 0] := ⟨by kernel_rfl, by kernel_rfl, by kernel_rfl, by kernel_rfl⟩
instance : TEq Tryd.prog 39 [0, 0] := ⟨by kernel_rfl, by kernel_rfl, by kernel_rfl, by kernel_rfl⟩
instance : TEq Tryd.prog 126 [0, 0] := ⟨by kernel_rfl, by kernel_rfl, by kernel_rfl, by kernel_rfl⟩
instance : TEq Tryd.prog 127 [0, 0] := ⟨by kernel_rfl, by kernel_rfl, by kernel_rfl, by kernel_rfl⟩
instance : TEq Tryd.prog 132 [1] := ⟨by kernel_rfl, by kernel_rfl, by kernel_rfl, by kernel_rfl⟩
instance : TEq Tryd.prog 133 [1] := ⟨by kernel_rfl, by kernel_rfl, by kernel_rfl, by kernel_rfl⟩
end Go.Proofs.YtkjgmjocikmplaaDoor
