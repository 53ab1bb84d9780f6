/- The element types of slices. (Written by wip/inst.py.). -/
import Derived.Test.YtalejlbiccdfjaaDoorZ1
import Derived.Test.YtalejlbiccdfjaaDoorZ7
namespace Go.Proofs.YtalejlbiccdfjaaDoor
theorem elm3:((Tryd.prog.info? 3).map fun i=>(i.zero.map (·.cells.toList),i.size,i.bytes))=some (some [.int .i64 0],1,8):=by kernel_rfl
instance:TElem Tryd.prog 3 1 8 [.int .i64 0]:=TElem.of elm3 rfl (by decide)
theorem elm31:((Tryd.prog.info? 31).map fun i=>(i.zero.map (·.cells.toList),i.size,i.bytes))=some (some [.int .i64 0,.int .i64 0],2,16):=by kernel_rfl
instance:TElem Tryd.prog 31 2 16 [.int .i64 0,.int .i64 0]:=TElem.of elm31 rfl (by decide)
theorem elm33:((Tryd.prog.info? 33).map fun i=>(i.zero.map (·.cells.toList),i.size,i.bytes))=some (some [.int .i64 0,.int .i64 0,.string ⟨#[]⟩],3,32):=by kernel_rfl
instance:TElem Tryd.prog 33 3 32 [.int .i64 0,.int .i64 0,.string ⟨#[]⟩]:=TElem.of elm33 rfl (by decide)
theorem elm47:((Tryd.prog.info? 47).map fun i=>(i.zero.map (·.cells.toList),i.size,i.bytes))=some (some [.int .i64 0,.int .i64 0],2,16):=by kernel_rfl
instance:TElem Tryd.prog 47 2 16 [.int .i64 0,.int .i64 0]:=TElem.of elm47 rfl (by decide)
theorem elm67:((Tryd.prog.info? 67).map fun i=>(i.zero.map (·.cells.toList),i.size,i.bytes))=some (some [.int .i64 0,.int .i64 0],2,16):=by kernel_rfl
instance:TElem Tryd.prog 67 2 16 [.int .i64 0,.int .i64 0]:=TElem.of elm67 rfl (by decide)
instance:TEq Tryd.prog 7 [0,0,2,0]:=⟨by kernel_rfl,by kernel_rfl,by kernel_rfl,by kernel_rfl⟩
instance:TEq Tryd.prog 8 [0,0,2,0]:=⟨by kernel_rfl,by kernel_rfl,by kernel_rfl,by kernel_rfl⟩
instance:TEq Tryd.prog 23 [0,0]:=⟨by kernel_rfl,by kernel_rfl,by kernel_rfl,by kernel_rfl⟩
instance:TEq Tryd.prog 31 [0,0]:=⟨by kernel_rfl,by kernel_rfl,by kernel_rfl,by kernel_rfl⟩
instance:TEq Tryd.prog 33 [0,0,1]:=⟨by kernel_rfl,by kernel_rfl,by kernel_rfl,by kernel_rfl⟩
instance:TEq Tryd.prog 47 [0,0]:=⟨by kernel_rfl,by kernel_rfl,by kernel_rfl,by kernel_rfl⟩
instance:TEq Tryd.prog 67 [0,0]:=⟨by kernel_rfl,by kernel_rfl,by kernel_rfl,by kernel_rfl⟩
instance:TEq Tryd.prog 102 [0,0]:=⟨by kernel_rfl,by kernel_rfl,by kernel_rfl,by kernel_rfl⟩
instance:TEq Tryd.prog 103 [0,0]:=⟨by kernel_rfl,by kernel_rfl,by kernel_rfl,by kernel_rfl⟩
instance:TMap Tryd.prog 52 3 3 (.int .i64):=⟨Tryd.underlying52,Tryd.underlying3⟩
instance:TZ1 Tryd.prog 3 (.int .i64 0):=⟨by kernel_rfl⟩
end Go.Proofs.YtalejlbiccdfjaaDoor
