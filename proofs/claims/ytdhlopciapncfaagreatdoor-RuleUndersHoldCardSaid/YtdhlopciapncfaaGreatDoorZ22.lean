/- slices.Clone of conditions: the slice that is empty and not nil. -/
import Derived.Test.YtdhlopciapncfaaGreatDoorZ9
import Derived.Test.YtdhlopciapncfaaGreatDoorProg
import Derived.WalkKit
import Derived.Lib.Walk
import Derived.Laws.AppendOwn
import Derived.Sort.Row
import Derived.Ground.SlgnProg
import Derived.Shelf.SlicesE.Clone
import Derived.Test.YtdhlopciapncfaaGreatDoorZ12
namespace Go.Proofs.YtdhlopciapncfaaGreatDoor
set_option linter.unusedSimpArgs false
set_option linter.unusedVariables false
open Go.RowKit Go.Lib
set_option maxRecDepth 100000
set_option maxHeartbeats 4000000
theorem cloneC_zero (A:Addr) (c:Nat) (w:World):Calls Tryz.prog 18 #[.slice (some A) 0 c] w fun x w'=>∃ v',x=.returned v'∧w'.ownsRow w.heap.size 25 6 v' 0 []∧v' ≠ .slice none 0 0∧Below w.heap.size w w':=by
 go_enter Tryz.func18,Tryz.ntmps18
 go_wp2
 rw [(run_slNil Tryz.underlying22).1]
 go_wp2
 go_ret
 refine ⟨.slice (some ⟨w.heap.size,0,none⟩) 0 0,rfl,⟨rfl,.inr ⟨w.heap.size,0,#[],rfl,Nat.le_refl _,?_,Nat.le_refl _,Nat.zero_le _,rfl,rfl⟩⟩,(by intro h;cases h),Ext.alloc _ _⟩
 show (w.heap.push _)[w.heap.size]?=_
 rw [Array.getElem?_push,if_pos rfl]
def laysCl_ren:Go.Shelf.Ren:=⟨fun|41=>18|n=>n,fun|22=>22|23=>25|4=>4|n=>n,fun|n=>n⟩
theorem laysCl:Go.Proofs.SlLaysE0.n41 Tryz.prog laysCl_ren:={
 mixed:=by kernel_rfl
 f41:=⟨Tryz.f18.name,by decide,Tryz.func18.trans (congrArg some (by kernel_rfl))⟩
 t4:=Tryz.underlying4
 a4:=Tryz.isAgg4
 z4:=Tryz.sizeOf4
 v4:=Tryz.zeroValue4
 t22:=Tryz.underlying22
 a22:=Tryz.isAgg22
 z22:=Tryz.sizeOf22
 v22:=Tryz.zeroValue22 }
theorem infoCl:(Tryz.prog.info? 25).any (fun i=>i.size == 6 && i.bytes == 88 && match i.zero with|some z=>z.cells.size == 6|none=>false)=true:=by kernel_rfl
theorem cloneC_sem (l:List Cond) (hl:l.length≤1000):Sem Tryz.prog 18 [.sl 0 6 (l.map Cond.row)] (.sl 2 6 (l.map Cond.row)):=by
 refine clone_sem (e:=25) (fun r hr=>by obtain ⟨c,_,rfl⟩:=List.mem_map.1 hr;exact c.row_len) (fun w=>AnyE.slices_Clone_nil laysCl 0 0 w) cloneC_zero fun b o c news w hn hc h1 _ => ?_
 have hi:=infoCl
 rw [Option.any_eq_true] at hi
 obtain ⟨i0,hi0,hi1⟩:=hi
 simp only [Bool.and_eq_true,beq_iff_eq] at hi1
 obtain ⟨⟨h6,h88⟩,hz⟩:=hi1
 cases hz0:i0.zero with
 |none=>rw [hz0] at hz;cases hz
 |some z=>
  rw [hz0] at hz
  rw [List.length_map] at hn ⊢
  exact AnyE.slices_Clone laysCl i0 z 6 88 hi0 hz0 h6 h88 (by simpa using hz) (by decide) Tryz.sizeOf25 b o l.length c news w hn (by unfold maxLen;omega) (by omega) hc h1
end Go.Proofs.YtdhlopciapncfaaGreatDoor
