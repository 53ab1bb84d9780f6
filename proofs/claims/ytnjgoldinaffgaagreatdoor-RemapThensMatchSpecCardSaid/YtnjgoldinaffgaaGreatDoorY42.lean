/- A world for the witnesses: tables of numbers, and the two errors of strconv. -/
import Derived.Test.YtnjgoldinaffgaaGreatDoorY37
import Derived.Deep.DeepWitnessRowRef
namespace Go.Proofs.YtnjgoldinaffgaaGreatDoor
set_option linter.unusedSimpArgs false
set_option linter.unusedVariables false
open Go.ChangeShapes Go.WideShapes Go.ChangeAt Go.RowKit Go.Deep
def zEB (h:Array Obj) (g:Nat) (cs:Array Value):Array Obj:=h.modify g fun x=>match x with
 |.cells _ t frozen=>.cells cs t frozen
 |o=>o
noncomputable def gN (os:Os):World:=
 let N:=(World.settled Tryz.prog os).heap.size
 let w0:=World.holding Tryz.prog os ⟨#[.cells #[.string ⟨#[118,97,108,117,101,32,111,117,116,32,111,102,32,114,97,110,103,101]⟩] 271,.cells #[.string ⟨#[105,110,118,97,108,105,100,32,115,121,110,116,97,120]⟩] 271],#[],[]⟩
 let h0:=zEB (zEB w0.heap 4 #[.iface 269 (.pointer (some ⟨N,0,none⟩))]) 3 #[.iface 269 (.pointer (some ⟨N+1,0,none⟩))]
 let h1:=zEB h0 6 ([0,1,28,2,29,14,24,3,30,22,20,15,25,17,4,8,31,27,13,23,21,19,16,7,26,12,18,6,11,5,10,9].map fun (n:Int)=>Value.int .u8 n).toArray
 let h2:=zEB h1 7 (bruijn.map fun n=>Value.int .u8 n).toArray
 let h3:=zEB h2 5 (Lib.pow10Tab.map fun n=>Value.int .u64 n).toArray
 let h4:=zEB h3 1 (Go.Pinned.utf8FirstZ.map fun (n:Nat)=>Value.int .u8 n).toArray
 let h5:=zEB h4 2 ([128,191,160,191,128,159,144,191,128,143,0,0,0,0,0,0,0,0,0,0,0,0,0,0,0,0,0,0,0,0,0,0].map fun (n:Nat)=>Value.int .u8 n).toArray
 { w0 with heap:=h5 }
end Go.Proofs.YtnjgoldinaffgaaGreatDoor
