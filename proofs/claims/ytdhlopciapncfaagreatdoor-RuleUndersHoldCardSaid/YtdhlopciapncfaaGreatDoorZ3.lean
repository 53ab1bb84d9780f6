/- The element types of slices. (Written by wip/inst.py.). -/
import Derived.Test.YtdhlopciapncfaaGreatDoorZ1
import Derived.Test.YtdhlopciapncfaaGreatDoorZ2
namespace Go.Proofs.YtdhlopciapncfaaGreatDoor
theorem elm3:((Tryz.prog.info? 3).map fun i=>(i.zero.map (·.cells.toList),i.size,i.bytes))=some (some [.int .i64 0],1,8):=by kernel_rfl
instance:TElem Tryz.prog 3 1 8 [.int .i64 0]:=TElem.of elm3 rfl (by decide)
theorem elm5:((Tryz.prog.info? 5).map fun i=>(i.zero.map (·.cells.toList),i.size,i.bytes))=some (some [.int .u8 0],1,1):=by kernel_rfl
instance:TElem Tryz.prog 5 1 1 [.int .u8 0]:=TElem.of elm5 rfl (by decide)
theorem elm9:((Tryz.prog.info? 9).map fun i=>(i.zero.map (·.cells.toList),i.size,i.bytes))=some (some [.string ⟨#[]⟩],1,16):=by kernel_rfl
instance:TElem Tryz.prog 9 1 16 [.string ⟨#[]⟩]:=TElem.of elm9 rfl (by decide)
theorem elm23:((Tryz.prog.info? 23).map fun i=>(i.zero.map (·.cells.toList),i.size,i.bytes))=some (some [.slice none 0 0],1,24):=by kernel_rfl
instance:TElem Tryz.prog 23 1 24 [.slice none 0 0]:=TElem.of elm23 rfl (by decide)
theorem elm25:((Tryz.prog.info? 25).map fun i=>(i.zero.map (·.cells.toList),i.size,i.bytes))=some (some [.int .i64 0,.slice none 0 0,.string ⟨#[]⟩,.slice none 0 0,.int .i64 0,.int .i64 0],6,88):=by kernel_rfl
instance:TElem Tryz.prog 25 6 88 [.int .i64 0,.slice none 0 0,.string ⟨#[]⟩,.slice none 0 0,.int .i64 0,.int .i64 0]:=TElem.of elm25 rfl (by decide)
theorem elm26:((Tryz.prog.info? 26).map fun i=>(i.zero.map (·.cells.toList),i.size,i.bytes))=some (some [.slice none 0 0],1,24):=by kernel_rfl
instance:TElem Tryz.prog 26 1 24 [.slice none 0 0]:=TElem.of elm26 rfl (by decide)
theorem elm76:((Tryz.prog.info? 76).map fun i=>(i.zero.map (·.cells.toList),i.size,i.bytes))=some (some [.string ⟨#[]⟩,.slice none 0 0],2,40):=by kernel_rfl
instance:TElem Tryz.prog 76 2 40 [.string ⟨#[]⟩,.slice none 0 0]:=TElem.of elm76 rfl (by decide)
theorem elm78:((Tryz.prog.info? 78).map fun i=>(i.zero.map (·.cells.toList),i.size,i.bytes))=some (some [.string ⟨#[]⟩,.string ⟨#[]⟩,.slice none 0 0,.slice none 0 0],4,80):=by kernel_rfl
instance:TElem Tryz.prog 78 4 80 [.string ⟨#[]⟩,.string ⟨#[]⟩,.slice none 0 0,.slice none 0 0]:=TElem.of elm78 rfl (by decide)
theorem elm93:((Tryz.prog.info? 93).map fun i=>(i.zero.map (·.cells.toList),i.size,i.bytes))=some (some [.slice none 0 0],1,24):=by kernel_rfl
instance:TElem Tryz.prog 93 1 24 [.slice none 0 0]:=TElem.of elm93 rfl (by decide)
theorem elm144:((Tryz.prog.info? 144).map fun i=>(i.zero.map (·.cells.toList),i.size,i.bytes))=some (some [.int .u32 0],1,4):=by kernel_rfl
instance:TElem Tryz.prog 144 1 4 [.int .u32 0]:=TElem.of elm144 rfl (by decide)
instance:TEq Tryz.prog 7 [0,0,2,0]:=⟨by kernel_rfl,by kernel_rfl,by kernel_rfl,by kernel_rfl⟩
instance:TEq Tryz.prog 8 [0,0,2,0]:=⟨by kernel_rfl,by kernel_rfl,by kernel_rfl,by kernel_rfl⟩
instance:TEq Tryz.prog 47 [0]:=⟨by kernel_rfl,by kernel_rfl,by kernel_rfl,by kernel_rfl⟩
instance:TEq Tryz.prog 48 [0]:=⟨by kernel_rfl,by kernel_rfl,by kernel_rfl,by kernel_rfl⟩
instance:TEq Tryz.prog 56 [0]:=⟨by kernel_rfl,by kernel_rfl,by kernel_rfl,by kernel_rfl⟩
instance:TEq Tryz.prog 57 [0]:=⟨by kernel_rfl,by kernel_rfl,by kernel_rfl,by kernel_rfl⟩
instance:TEq Tryz.prog 95 [0,0,0]:=⟨by kernel_rfl,by kernel_rfl,by kernel_rfl,by kernel_rfl⟩
instance:TEq Tryz.prog 100 [0,0]:=⟨by kernel_rfl,by kernel_rfl,by kernel_rfl,by kernel_rfl⟩
instance:TEq Tryz.prog 101 [0,0]:=⟨by kernel_rfl,by kernel_rfl,by kernel_rfl,by kernel_rfl⟩
instance:TEq Tryz.prog 113 [2,2,2,2]:=⟨by kernel_rfl,by kernel_rfl,by kernel_rfl,by kernel_rfl⟩
instance:TEq Tryz.prog 114 [2,2,2,2]:=⟨by kernel_rfl,by kernel_rfl,by kernel_rfl,by kernel_rfl⟩
instance:TEq Tryz.prog 227 [0,0]:=⟨by kernel_rfl,by kernel_rfl,by kernel_rfl,by kernel_rfl⟩
instance:TEq Tryz.prog 253 [1]:=⟨by kernel_rfl,by kernel_rfl,by kernel_rfl,by kernel_rfl⟩
end Go.Proofs.YtdhlopciapncfaaGreatDoor
