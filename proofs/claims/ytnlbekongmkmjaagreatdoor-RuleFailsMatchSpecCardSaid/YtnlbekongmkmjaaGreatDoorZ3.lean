/- The element types of slices. (Written by wip/inst.py.). -/
import Derived.Test.YtnlbekongmkmjaaGreatDoorZ1
import Derived.Test.YtnlbekongmkmjaaGreatDoorZ2
namespace Go.Proofs.YtnlbekongmkmjaaGreatDoor
theorem elm3:((Tryz.prog.info? 3).map fun i=>(i.zero.map (·.cells.toList),i.size,i.bytes))=some (some [.int .i64 0],1,8):=by kernel_rfl
instance:TElem Tryz.prog 3 1 8 [.int .i64 0]:=TElem.of elm3 rfl (by decide)
theorem elm4:((Tryz.prog.info? 4).map fun i=>(i.zero.map (·.cells.toList),i.size,i.bytes))=some (some [.bool false],1,1):=by kernel_rfl
instance:TElem Tryz.prog 4 1 1 [.bool false]:=TElem.of elm4 rfl (by decide)
theorem elm5:((Tryz.prog.info? 5).map fun i=>(i.zero.map (·.cells.toList),i.size,i.bytes))=some (some [.int .u8 0],1,1):=by kernel_rfl
instance:TElem Tryz.prog 5 1 1 [.int .u8 0]:=TElem.of elm5 rfl (by decide)
theorem elm9:((Tryz.prog.info? 9).map fun i=>(i.zero.map (·.cells.toList),i.size,i.bytes))=some (some [.string ⟨#[]⟩],1,16):=by kernel_rfl
instance:TElem Tryz.prog 9 1 16 [.string ⟨#[]⟩]:=TElem.of elm9 rfl (by decide)
theorem elm23:((Tryz.prog.info? 23).map fun i=>(i.zero.map (·.cells.toList),i.size,i.bytes))=some (some [.slice none 0 0],1,24):=by kernel_rfl
instance:TElem Tryz.prog 23 1 24 [.slice none 0 0]:=TElem.of elm23 rfl (by decide)
theorem elm32:((Tryz.prog.info? 32).map fun i=>(i.zero.map (·.cells.toList),i.size,i.bytes))=some (some [.int .i64 0,.slice none 0 0,.string ⟨#[]⟩,.slice none 0 0,.int .i64 0,.int .i64 0],6,88):=by kernel_rfl
instance:TElem Tryz.prog 32 6 88 [.int .i64 0,.slice none 0 0,.string ⟨#[]⟩,.slice none 0 0,.int .i64 0,.int .i64 0]:=TElem.of elm32 rfl (by decide)
theorem elm33:((Tryz.prog.info? 33).map fun i=>(i.zero.map (·.cells.toList),i.size,i.bytes))=some (some [.slice none 0 0],1,24):=by kernel_rfl
instance:TElem Tryz.prog 33 1 24 [.slice none 0 0]:=TElem.of elm33 rfl (by decide)
theorem elm42:((Tryz.prog.info? 42).map fun i=>(i.zero.map (·.cells.toList),i.size,i.bytes))=some (some [.string ⟨#[]⟩,.int .i64 0,.slice none 0 0,.string ⟨#[]⟩,.slice none 0 0,.int .i64 0,.int .i64 0],7,104):=by kernel_rfl
instance:TElem Tryz.prog 42 7 104 [.string ⟨#[]⟩,.int .i64 0,.slice none 0 0,.string ⟨#[]⟩,.slice none 0 0,.int .i64 0,.int .i64 0]:=TElem.of elm42 rfl (by decide)
theorem elm48:((Tryz.prog.info? 48).map fun i=>(i.zero.map (·.cells.toList),i.size,i.bytes))=some (some [.int .i64 0,.int .i64 0,.slice none 0 0],3,40):=by kernel_rfl
instance:TElem Tryz.prog 48 3 40 [.int .i64 0,.int .i64 0,.slice none 0 0]:=TElem.of elm48 rfl (by decide)
theorem elm49:((Tryz.prog.info? 49).map fun i=>(i.zero.map (·.cells.toList),i.size,i.bytes))=some (some [.slice none 0 0],1,24):=by kernel_rfl
instance:TElem Tryz.prog 49 1 24 [.slice none 0 0]:=TElem.of elm49 rfl (by decide)
theorem elm111:((Tryz.prog.info? 111).map fun i=>(i.zero.map (·.cells.toList),i.size,i.bytes))=some (some [.string ⟨#[]⟩,.slice none 0 0],2,40):=by kernel_rfl
instance:TElem Tryz.prog 111 2 40 [.string ⟨#[]⟩,.slice none 0 0]:=TElem.of elm111 rfl (by decide)
theorem elm113:((Tryz.prog.info? 113).map fun i=>(i.zero.map (·.cells.toList),i.size,i.bytes))=some (some [.string ⟨#[]⟩,.string ⟨#[]⟩,.slice none 0 0,.slice none 0 0],4,80):=by kernel_rfl
instance:TElem Tryz.prog 113 4 80 [.string ⟨#[]⟩,.string ⟨#[]⟩,.slice none 0 0,.slice none 0 0]:=TElem.of elm113 rfl (by decide)
theorem elm125:((Tryz.prog.info? 125).map fun i=>(i.zero.map (·.cells.toList),i.size,i.bytes))=some (some [.slice none 0 0],1,24):=by kernel_rfl
instance:TElem Tryz.prog 125 1 24 [.slice none 0 0]:=TElem.of elm125 rfl (by decide)
theorem elm184:((Tryz.prog.info? 184).map fun i=>(i.zero.map (·.cells.toList),i.size,i.bytes))=some (some [.int .u32 0],1,4):=by kernel_rfl
instance:TElem Tryz.prog 184 1 4 [.int .u32 0]:=TElem.of elm184 rfl (by decide)
instance:TEq Tryz.prog 7 [0,0,2,0]:=⟨by kernel_rfl,by kernel_rfl,by kernel_rfl,by kernel_rfl⟩
instance:TEq Tryz.prog 8 [0,0,2,0]:=⟨by kernel_rfl,by kernel_rfl,by kernel_rfl,by kernel_rfl⟩
instance:TEq Tryz.prog 70 [0]:=⟨by kernel_rfl,by kernel_rfl,by kernel_rfl,by kernel_rfl⟩
instance:TEq Tryz.prog 71 [0]:=⟨by kernel_rfl,by kernel_rfl,by kernel_rfl,by kernel_rfl⟩
instance:TEq Tryz.prog 74 [0]:=⟨by kernel_rfl,by kernel_rfl,by kernel_rfl,by kernel_rfl⟩
instance:TEq Tryz.prog 75 [0]:=⟨by kernel_rfl,by kernel_rfl,by kernel_rfl,by kernel_rfl⟩
instance:TEq Tryz.prog 127 [0,0,0]:=⟨by kernel_rfl,by kernel_rfl,by kernel_rfl,by kernel_rfl⟩
instance:TEq Tryz.prog 132 [0,0]:=⟨by kernel_rfl,by kernel_rfl,by kernel_rfl,by kernel_rfl⟩
instance:TEq Tryz.prog 168 [2,2,2,2]:=⟨by kernel_rfl,by kernel_rfl,by kernel_rfl,by kernel_rfl⟩
instance:TEq Tryz.prog 247 [0,0]:=⟨by kernel_rfl,by kernel_rfl,by kernel_rfl,by kernel_rfl⟩
instance:TEq Tryz.prog 298 [1]:=⟨by kernel_rfl,by kernel_rfl,by kernel_rfl,by kernel_rfl⟩
end Go.Proofs.YtnlbekongmkmjaaGreatDoor
