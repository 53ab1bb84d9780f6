/- The element types of slices. (Written by wip/inst.py.). -/
import Derived.Test.YtnjgoldinaffgaaGreatDoorY3
namespace Go.Proofs.YtnjgoldinaffgaaGreatDoor
open _root_.Go.Proofs.Tryz
theorem zQ3:((Tryz.prog.info? 3).map fun i=>(i.zero.map (·.cells.toList),i.size,i.bytes))=some (some [.int .i64 0],1,8):=by kernel_rfl
instance:TElem Tryz.prog 3 1 8 [.int .i64 0]:=TElem.of zQ3 rfl (by decide)
theorem zQ2:((Tryz.prog.info? 5).map fun i=>(i.zero.map (·.cells.toList),i.size,i.bytes))=some (some [.int .u8 0],1,1):=by kernel_rfl
instance:TElem Tryz.prog 5 1 1 [.int .u8 0]:=TElem.of zQ2 rfl (by decide)
theorem zQ1:((Tryz.prog.info? 9).map fun i=>(i.zero.map (·.cells.toList),i.size,i.bytes))=some (some [.string ⟨#[]⟩],1,16):=by kernel_rfl
instance:TElem Tryz.prog 9 1 16 [.string ⟨#[]⟩]:=TElem.of zQ1 rfl (by decide)
theorem zPM:((Tryz.prog.info? 25).map fun i=>(i.zero.map (·.cells.toList),i.size,i.bytes))=some (some [.string ⟨#[]⟩,.slice none 0 0,.slice none 0 0],3,64):=by kernel_rfl
instance:TElem Tryz.prog 25 3 64 [.string ⟨#[]⟩,.slice none 0 0,.slice none 0 0]:=TElem.of zPM rfl (by decide)
theorem zPL:((Tryz.prog.info? 51).map fun i=>(i.zero.map (·.cells.toList),i.size,i.bytes))=some (some [.string ⟨#[]⟩,.slice none 0 0],2,40):=by kernel_rfl
instance:TElem Tryz.prog 51 2 40 [.string ⟨#[]⟩,.slice none 0 0]:=TElem.of zPL rfl (by decide)
theorem zPK:((Tryz.prog.info? 58).map fun i=>(i.zero.map (·.cells.toList),i.size,i.bytes))=some (some [.int .i64 0,.int .i64 0,.int .i64 0,.string ⟨#[]⟩,.string ⟨#[]⟩,.string ⟨#[]⟩],6,72):=by kernel_rfl
instance:TElem Tryz.prog 58 6 72 [.int .i64 0,.int .i64 0,.int .i64 0,.string ⟨#[]⟩,.string ⟨#[]⟩,.string ⟨#[]⟩]:=TElem.of zPK rfl (by decide)
theorem zPJ:((Tryz.prog.info? 62).map fun i=>(i.zero.map (·.cells.toList),i.size,i.bytes))=some (some [.int .i64 0,.slice none 0 0,.string ⟨#[]⟩,.slice none 0 0,.int .i64 0,.int .i64 0],6,88):=by kernel_rfl
instance:TElem Tryz.prog 62 6 88 [.int .i64 0,.slice none 0 0,.string ⟨#[]⟩,.slice none 0 0,.int .i64 0,.int .i64 0]:=TElem.of zPJ rfl (by decide)
theorem zPI:((Tryz.prog.info? 64).map fun i=>(i.zero.map (·.cells.toList),i.size,i.bytes))=some (some [.int .i64 0,.string ⟨#[]⟩,.slice none 0 0,.string ⟨#[]⟩,.string ⟨#[]⟩,.int .i64 0,.slice none 0 0,.string ⟨#[]⟩,.slice none 0 0,.int .i64 0,.int .i64 0,.slice none 0 0],12,192):=by kernel_rfl
instance:TElem Tryz.prog 64 12 192 [.int .i64 0,.string ⟨#[]⟩,.slice none 0 0,.string ⟨#[]⟩,.string ⟨#[]⟩,.int .i64 0,.slice none 0 0,.string ⟨#[]⟩,.slice none 0 0,.int .i64 0,.int .i64 0,.slice none 0 0]:=TElem.of zPI rfl (by decide)
theorem zPH:((Tryz.prog.info? 71).map fun i=>(i.zero.map (·.cells.toList),i.size,i.bytes))=some (some [.string ⟨#[]⟩,.string ⟨#[]⟩],2,32):=by kernel_rfl
instance:TElem Tryz.prog 71 2 32 [.string ⟨#[]⟩,.string ⟨#[]⟩]:=TElem.of zPH rfl (by decide)
instance:TEq Tryz.prog 7 [0,0,2,0]:=⟨by kernel_rfl,by kernel_rfl,by kernel_rfl,by kernel_rfl⟩
instance:TEq Tryz.prog 8 [0,0,2,0]:=⟨by kernel_rfl,by kernel_rfl,by kernel_rfl,by kernel_rfl⟩
instance:TEq Tryz.prog 55 [0,1,1,1]:=⟨by kernel_rfl,by kernel_rfl,by kernel_rfl,by kernel_rfl⟩
instance:TEq Tryz.prog 56 [0,1,1,1]:=⟨by kernel_rfl,by kernel_rfl,by kernel_rfl,by kernel_rfl⟩
instance:TEq Tryz.prog 113 [1,0,0]:=⟨by kernel_rfl,by kernel_rfl,by kernel_rfl,by kernel_rfl⟩
instance:TEq Tryz.prog 114 [1,0,0]:=⟨by kernel_rfl,by kernel_rfl,by kernel_rfl,by kernel_rfl⟩
instance:TEq Tryz.prog 205 [0]:=⟨by kernel_rfl,by kernel_rfl,by kernel_rfl,by kernel_rfl⟩
instance:TEq Tryz.prog 249 [0,0]:=⟨by kernel_rfl,by kernel_rfl,by kernel_rfl,by kernel_rfl⟩
instance:TEq Tryz.prog 253 [2,2,2,2]:=⟨by kernel_rfl,by kernel_rfl,by kernel_rfl,by kernel_rfl⟩
instance:TEq Tryz.prog 271 [1]:=⟨by kernel_rfl,by kernel_rfl,by kernel_rfl,by kernel_rfl⟩
instance:TEqS Tryz.prog 57 [0,0,0,1,1,1]:=TEqS.nest [(false,0,3),(false,1,3),(false,2,56)] [[0],[0],[0,1,1,1]] (by kernel_rfl) (by kernel_rfl) ⟨rfl,rfl,.inl ⟨_,rfl,by kernel_rfl⟩,⟨rfl,rfl,.inl ⟨_,rfl,by kernel_rfl⟩,⟨rfl,rfl,.inr ⟨inferInstance,by kernel_rfl⟩,trivial⟩⟩⟩ rfl (by kernel_rfl) (by kernel_rfl)
instance:TEqS Tryz.prog 58 [0,0,0,1,1,1]:=TEqS.nest [(false,0,3),(false,1,3),(false,2,56)] [[0],[0],[0,1,1,1]] (by kernel_rfl) (by kernel_rfl) ⟨rfl,rfl,.inl ⟨_,rfl,by kernel_rfl⟩,⟨rfl,rfl,.inl ⟨_,rfl,by kernel_rfl⟩,⟨rfl,rfl,.inr ⟨inferInstance,by kernel_rfl⟩,trivial⟩⟩⟩ rfl (by kernel_rfl) (by kernel_rfl)
instance:TMap Tryz.prog 68 9 4 .str:=⟨underlying68,underlying9⟩
instance:TZ1 Tryz.prog 4 (.bool false):=⟨by kernel_rfl⟩
instance:TMap Tryz.prog 105 9 4 .str:=⟨underlying105,underlying9⟩
instance:TMap Tryz.prog 108 114 4 (.st [1,0,0]):=⟨underlying108,(inferInstance:TEq Tryz.prog 114 [1,0,0])⟩
end Go.Proofs.YtnjgoldinaffgaaGreatDoor
