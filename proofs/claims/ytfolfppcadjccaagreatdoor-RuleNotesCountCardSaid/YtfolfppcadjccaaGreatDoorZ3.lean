/- The element types of slices. (Written by wip/inst.py.). -/
import Derived.Test.YtfolfppcadjccaaGreatDoorZ1
import Derived.Test.YtfolfppcadjccaaGreatDoorZ2
namespace Go.Proofs.YtfolfppcadjccaaGreatDoor
theorem elm3:((Tryz.prog.info? 3).map fun i=>(i.zero.map (·.cells.toList),i.size,i.bytes))=some (some [.int .i64 0],1,8):=by kernel_rfl
instance:TElem Tryz.prog 3 1 8 [.int .i64 0]:=TElem.of elm3 rfl (by decide)
theorem elm4:((Tryz.prog.info? 4).map fun i=>(i.zero.map (·.cells.toList),i.size,i.bytes))=some (some [.bool false],1,1):=by kernel_rfl
instance:TElem Tryz.prog 4 1 1 [.bool false]:=TElem.of elm4 rfl (by decide)
theorem elm5:((Tryz.prog.info? 5).map fun i=>(i.zero.map (·.cells.toList),i.size,i.bytes))=some (some [.int .u8 0],1,1):=by kernel_rfl
instance:TElem Tryz.prog 5 1 1 [.int .u8 0]:=TElem.of elm5 rfl (by decide)
theorem elm9:((Tryz.prog.info? 9).map fun i=>(i.zero.map (·.cells.toList),i.size,i.bytes))=some (some [.string ⟨#[]⟩],1,16):=by kernel_rfl
instance:TElem Tryz.prog 9 1 16 [.string ⟨#[]⟩]:=TElem.of elm9 rfl (by decide)
theorem elm23:((Tryz.prog.info? 23).map fun i=>(i.zero.map (·.cells.toList),i.size,i.bytes))=some (some [.slice none 0 0],1,24):=by kernel_rfl
instance:TElem Tryz.prog 23 1 24 [.slice none 0 0]:=TElem.of elm23 rfl (by decide)
theorem elm25:((Tryz.prog.info? 25).map fun i=>(i.zero.map (·.cells.toList),i.size,i.bytes))=some (some [.int .i64 0,.slice none 0 0,.string ⟨#[]⟩,.slice none 0 0,.int .i64 0,.int .i64 0],6,88):=by kernel_rfl
instance:TElem Tryz.prog 25 6 88 [.int .i64 0,.slice none 0 0,.string ⟨#[]⟩,.slice none 0 0,.int .i64 0,.int .i64 0]:=TElem.of elm25 rfl (by decide)
theorem elm26:((Tryz.prog.info? 26).map fun i=>(i.zero.map (·.cells.toList),i.size,i.bytes))=some (some [.slice none 0 0],1,24):=by kernel_rfl
instance:TElem Tryz.prog 26 1 24 [.slice none 0 0]:=TElem.of elm26 rfl (by decide)
theorem elm47:((Tryz.prog.info? 47).map fun i=>(i.zero.map (·.cells.toList),i.size,i.bytes))=some (some [.string ⟨#[]⟩,.slice none 0 0],2,40):=by kernel_rfl
instance:TElem Tryz.prog 47 2 40 [.string ⟨#[]⟩,.slice none 0 0]:=TElem.of elm47 rfl (by decide)
theorem elm50:((Tryz.prog.info? 50).map fun i=>(i.zero.map (·.cells.toList),i.size,i.bytes))=some (some [.string ⟨#[]⟩,.string ⟨#[]⟩,.slice none 0 0,.slice none 0 0],4,80):=by kernel_rfl
instance:TElem Tryz.prog 50 4 80 [.string ⟨#[]⟩,.string ⟨#[]⟩,.slice none 0 0,.slice none 0 0]:=TElem.of elm50 rfl (by decide)
theorem elm53:((Tryz.prog.info? 53).map fun i=>(i.zero.map (·.cells.toList),i.size,i.bytes))=some (some [.slice none 0 0],1,24):=by kernel_rfl
instance:TElem Tryz.prog 53 1 24 [.slice none 0 0]:=TElem.of elm53 rfl (by decide)
theorem elm63:((Tryz.prog.info? 63).map fun i=>(i.zero.map (·.cells.toList),i.size,i.bytes))=some (some [.string ⟨#[]⟩,.int .i64 0,.slice none 0 0,.string ⟨#[]⟩,.slice none 0 0,.int .i64 0,.int .i64 0],7,104):=by kernel_rfl
instance:TElem Tryz.prog 63 7 104 [.string ⟨#[]⟩,.int .i64 0,.slice none 0 0,.string ⟨#[]⟩,.slice none 0 0,.int .i64 0,.int .i64 0]:=TElem.of elm63 rfl (by decide)
theorem elm80:((Tryz.prog.info? 80).map fun i=>(i.zero.map (·.cells.toList),i.size,i.bytes))=some (some [.slice none 0 0],1,24):=by kernel_rfl
instance:TElem Tryz.prog 80 1 24 [.slice none 0 0]:=TElem.of elm80 rfl (by decide)
theorem elm82:((Tryz.prog.info? 82).map fun i=>(i.zero.map (·.cells.toList),i.size,i.bytes))=some (some [.int .i64 0,.int .i64 0,.slice none 0 0],3,40):=by kernel_rfl
instance:TElem Tryz.prog 82 3 40 [.int .i64 0,.int .i64 0,.slice none 0 0]:=TElem.of elm82 rfl (by decide)
theorem elm196:((Tryz.prog.info? 196).map fun i=>(i.zero.map (·.cells.toList),i.size,i.bytes))=some (some [.int .u32 0],1,4):=by kernel_rfl
instance:TElem Tryz.prog 196 1 4 [.int .u32 0]:=TElem.of elm196 rfl (by decide)
instance:TEq Tryz.prog 7 [0,0,2,0]:=⟨by kernel_rfl,by kernel_rfl,by kernel_rfl,by kernel_rfl⟩
instance:TEq Tryz.prog 8 [0,0,2,0]:=⟨by kernel_rfl,by kernel_rfl,by kernel_rfl,by kernel_rfl⟩
instance:TEq Tryz.prog 88 [0]:=⟨by kernel_rfl,by kernel_rfl,by kernel_rfl,by kernel_rfl⟩
instance:TEq Tryz.prog 89 [0]:=⟨by kernel_rfl,by kernel_rfl,by kernel_rfl,by kernel_rfl⟩
instance:TEq Tryz.prog 93 [0]:=⟨by kernel_rfl,by kernel_rfl,by kernel_rfl,by kernel_rfl⟩
instance:TEq Tryz.prog 139 [0,0,0]:=⟨by kernel_rfl,by kernel_rfl,by kernel_rfl,by kernel_rfl⟩
instance:TEq Tryz.prog 144 [0,0]:=⟨by kernel_rfl,by kernel_rfl,by kernel_rfl,by kernel_rfl⟩
instance:TEq Tryz.prog 177 [2,2,2,2]:=⟨by kernel_rfl,by kernel_rfl,by kernel_rfl,by kernel_rfl⟩
instance:TEq Tryz.prog 274 [0,0]:=⟨by kernel_rfl,by kernel_rfl,by kernel_rfl,by kernel_rfl⟩
instance:TEq Tryz.prog 304 [1]:=⟨by kernel_rfl,by kernel_rfl,by kernel_rfl,by kernel_rfl⟩
end Go.Proofs.YtfolfppcadjccaaGreatDoor
