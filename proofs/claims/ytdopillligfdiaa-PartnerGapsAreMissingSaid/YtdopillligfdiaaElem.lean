/- The element types of slices. (Written by wip/inst.py.) -/
import Derived.Test.YtdopillligfdiaaEq
import Derived.Test.YtdopillligfdiaaInst
namespace Go.Proofs.Ytdopillligfdiaa
theorem elm3 : ((Try.prog.info? 3).map fun i => (i.zero.map (·.cells.toList), i.size, i.bytes)) = some (some [.int .i64 0], 1, 8) := by kernel_rfl
instance : TElem Try.prog 3 1 8 [.int .i64 0] := TElem.of elm3 rfl (by decide)
theorem elm42 : ((Try.prog.info? 42).map fun i => (i.zero.map (·.cells.toList), i.size, i.bytes)) = some (some [.int .i64 0, .int .i64 0], 2, 16) := by kernel_rfl
instance : TElem Try.prog 42 2 16 [.int .i64 0, .int .i64 0] := TElem.of elm42 rfl (by decide)
instance : TEq Try.prog 7 [0, 0, 2, 0] := ⟨Try.underlying7, by kernel_rfl, by kernel_rfl, by kernel_rfl⟩
instance : TEq Try.prog 8 [0, 0, 2, 0] := ⟨Try.underlying8, by kernel_rfl, by kernel_rfl, by kernel_rfl⟩
instance : TEq Try.prog 22 [0, 0] := ⟨Try.underlying22, by kernel_rfl, by kernel_rfl, by kernel_rfl⟩
instance : TEq Try.prog 23 [0, 0] := ⟨Try.underlying23, by kernel_rfl, by kernel_rfl, by kernel_rfl⟩
instance : TEq Try.prog 41 [0, 0] := ⟨Try.underlying41, by kernel_rfl, by kernel_rfl, by kernel_rfl⟩
instance : TEq Try.prog 42 [0, 0] := ⟨Try.underlying42, by kernel_rfl, by kernel_rfl, by kernel_rfl⟩
end Go.Proofs.Ytdopillligfdiaa
