/- The element types of slices. (Written by wip/inst.py.). -/
import Derived.Test.YtindehjiaknokaaGreatDoorY2
namespace Go.Proofs.YtindehjiaknokaaGreatDoor
theorem elm3:((Tryz.prog.info? 3).map fun i=>(i.zero.map (·.cells.toList),i.size,i.bytes))=some (some [.int .i64 0],1,8):=by kernel_rfl
instance:TElem Tryz.prog 3 1 8 [.int .i64 0]:=TElem.of elm3 rfl (by decide)
theorem elm5:((Tryz.prog.info? 5).map fun i=>(i.zero.map (·.cells.toList),i.size,i.bytes))=some (some [.int .u8 0],1,1):=by kernel_rfl
instance:TElem Tryz.prog 5 1 1 [.int .u8 0]:=TElem.of elm5 rfl (by decide)
theorem elm9:((Tryz.prog.info? 9).map fun i=>(i.zero.map (·.cells.toList),i.size,i.bytes))=some (some [.string ⟨#[]⟩],1,16):=by kernel_rfl
instance:TElem Tryz.prog 9 1 16 [.string ⟨#[]⟩]:=TElem.of elm9 rfl (by decide)
theorem elm25:((Tryz.prog.info? 25).map fun i=>(i.zero.map (·.cells.toList),i.size,i.bytes))=some (some [.int .i64 0,.slice none 0 0,.string ⟨#[]⟩,.slice none 0 0,.int .i64 0,.int .i64 0],6,88):=by kernel_rfl
instance:TElem Tryz.prog 25 6 88 [.int .i64 0,.slice none 0 0,.string ⟨#[]⟩,.slice none 0 0,.int .i64 0,.int .i64 0]:=TElem.of elm25 rfl (by decide)
instance:TEq Tryz.prog 7 [0,0,2,0]:=⟨by kernel_rfl,by kernel_rfl,by kernel_rfl,by kernel_rfl⟩
instance:TEq Tryz.prog 8 [0,0,2,0]:=⟨by kernel_rfl,by kernel_rfl,by kernel_rfl,by kernel_rfl⟩
instance:TEq Tryz.prog 40 [0]:=⟨by kernel_rfl,by kernel_rfl,by kernel_rfl,by kernel_rfl⟩
instance:TEq Tryz.prog 45 [1,0,2]:=⟨by kernel_rfl,by kernel_rfl,by kernel_rfl,by kernel_rfl⟩
instance:TEq Tryz.prog 46 [1,0,2]:=⟨by kernel_rfl,by kernel_rfl,by kernel_rfl,by kernel_rfl⟩
instance:TEq Tryz.prog 49 [1,0,0]:=⟨by kernel_rfl,by kernel_rfl,by kernel_rfl,by kernel_rfl⟩
instance:TEq Tryz.prog 50 [1,0,0]:=⟨by kernel_rfl,by kernel_rfl,by kernel_rfl,by kernel_rfl⟩
instance:TEq Tryz.prog 75 [2,2,2,2]:=⟨by kernel_rfl,by kernel_rfl,by kernel_rfl,by kernel_rfl⟩
instance:TEq Tryz.prog 76 [2,2,2,2]:=⟨by kernel_rfl,by kernel_rfl,by kernel_rfl,by kernel_rfl⟩
instance:TEq Tryz.prog 94 [0,0]:=⟨by kernel_rfl,by kernel_rfl,by kernel_rfl,by kernel_rfl⟩
instance:TEq Tryz.prog 212 [1]:=⟨by kernel_rfl,by kernel_rfl,by kernel_rfl,by kernel_rfl⟩
instance:TEq Tryz.prog 218 [0,0]:=⟨by kernel_rfl,by kernel_rfl,by kernel_rfl,by kernel_rfl⟩
end Go.Proofs.YtindehjiaknokaaGreatDoor
