/- slices.Clone of elements, repeats, branches: the walk of the slice that is empty and not nil, the shelf's law for the others. -/
import Derived.Test.YtdhlopciapncfaaGreatDoorZ34
import Derived.Test.YtdhlopciapncfaaGreatDoorZ29
import Derived.Test.YtdhlopciapncfaaGreatDoorZ23
import Derived.Test.YtdhlopciapncfaaGreatDoorProg
import Derived.WalkKit
import Derived.Lib.Walk
import Derived.Laws.AppendOwn
import Derived.Sort.Row
import Derived.Ground.SlgnProg
import Derived.Shelf.SlicesE.Clone
import Derived.Test.YtdhlopciapncfaaGreatDoorZ12
namespace Go.Proofs.YtdhlopciapncfaaGreatDoor
set_option linter.unusedSimpArgs false
set_option linter.unusedVariables false
open Go.RowKit Go.Lib
set_option maxRecDepth 100000
set_option maxHeartbeats 4000000
def SegCloneOk:Prop:=∀ (t:Str) (els:List El),els.length≤50→(∀ e ∈ els,NarE e)→Sem Tryz.prog 38 [.agg [.str t,.sl 0 1 (els.map elR)]] (.agg [.str t,.sl 0 1 (els.map elR)])
def BrCloneOk:Prop:=∀ l:List Br,l.length≤100000→Sem Tryz.prog 37 [.sl 0 4 (l.map Br.row)] (.sl 2 4 (l.map Br.row))
theorem cloneE_zero (A:Addr) (c:Nat) (w:World):Calls Tryz.prog 62 #[.slice (some A) 0 c] w fun x w'=>∃ v',x=.returned v'∧w'.ownsRow w.heap.size 93 1 v' 0 []∧v' ≠ .slice none 0 0∧Below w.heap.size w w':=by
 go_enter Tryz.func62,Tryz.ntmps62
 go_wp2
 rw [(run_slNil Tryz.underlying74).1]
 go_wp2
 go_ret
 refine ⟨.slice (some ⟨w.heap.size,0,none⟩) 0 0,rfl,⟨rfl,.inr ⟨w.heap.size,0,#[],rfl,Nat.le_refl _,?_,Nat.le_refl _,Nat.zero_le _,rfl,rfl⟩⟩,(by intro h;cases h),Ext.alloc _ _⟩
 show (w.heap.push _)[w.heap.size]?=_
 rw [Array.getElem?_push,if_pos rfl]
def laysE_ren:Go.Shelf.Ren:=⟨fun|41=>62|n=>n,fun|22=>74|23=>93|4=>4|n=>n,fun|n=>n⟩
theorem laysE:Go.Proofs.SlLaysE0.n41 Tryz.prog laysE_ren:={
 mixed:=by kernel_rfl
 f41:=⟨Tryz.f62.name,by decide,Tryz.func62.trans (congrArg some (by kernel_rfl))⟩
 t4:=Tryz.underlying4
 a4:=Tryz.isAgg4
 z4:=Tryz.sizeOf4
 v4:=Tryz.zeroValue4
 t22:=Tryz.underlying74
 a22:=Tryz.isAgg74
 z22:=Tryz.sizeOf74
 v22:=Tryz.zeroValue74 }
theorem infoE:(Tryz.prog.info? 93).any (fun i=>i.size == 1 && i.bytes == 24 && match i.zero with|some z=>z.cells.size == 1|none=>false)=true:=by kernel_rfl
theorem cloneE_ok:CloneEOk:=fun l hl=>by
 refine clone_sem (e:=93) (fun r hr=>by obtain ⟨c,_,rfl⟩:=List.mem_map.1 hr;rfl) (fun w=>AnyE.slices_Clone_nil laysE 0 0 w) cloneE_zero fun b o c news w hn hc h1 _ => ?_
 have hi:=infoE
 rw [Option.any_eq_true] at hi
 obtain ⟨i0,hi0,hi1⟩:=hi
 simp only [Bool.and_eq_true,beq_iff_eq] at hi1
 obtain ⟨⟨h6,h88⟩,hz⟩:=hi1
 cases hz0:i0.zero with
 |none=>rw [hz0] at hz;cases hz
 |some z=>
  rw [hz0] at hz
  rw [List.length_map] at hn ⊢
  exact AnyE.slices_Clone laysE i0 z 1 24 hi0 hz0 h6 h88 (by simpa using hz) (by decide) Tryz.sizeOf93 b o l.length c news w hn (by unfold maxLen;omega) (by omega) hc h1
theorem cloneR_zero (A:Addr) (c:Nat) (w:World):Calls Tryz.prog 63 #[.slice (some A) 0 c] w fun x w'=>∃ v',x=.returned v'∧w'.ownsRow w.heap.size 23 1 v' 0 []∧v' ≠ .slice none 0 0∧Below w.heap.size w w':=by
 go_enter Tryz.func63,Tryz.ntmps63
 go_wp2
 rw [(run_slNil Tryz.underlying91).1]
 go_wp2
 go_ret
 refine ⟨.slice (some ⟨w.heap.size,0,none⟩) 0 0,rfl,⟨rfl,.inr ⟨w.heap.size,0,#[],rfl,Nat.le_refl _,?_,Nat.le_refl _,Nat.zero_le _,rfl,rfl⟩⟩,(by intro h;cases h),Ext.alloc _ _⟩
 show (w.heap.push _)[w.heap.size]?=_
 rw [Array.getElem?_push,if_pos rfl]
def laysR_ren:Go.Shelf.Ren:=⟨fun|41=>63|n=>n,fun|22=>91|23=>23|4=>4|n=>n,fun|n=>n⟩
theorem laysR:Go.Proofs.SlLaysE0.n41 Tryz.prog laysR_ren:={
 mixed:=by kernel_rfl
 f41:=⟨Tryz.f63.name,by decide,Tryz.func63.trans (congrArg some (by kernel_rfl))⟩
 t4:=Tryz.underlying4
 a4:=Tryz.isAgg4
 z4:=Tryz.sizeOf4
 v4:=Tryz.zeroValue4
 t22:=Tryz.underlying91
 a22:=Tryz.isAgg91
 z22:=Tryz.sizeOf91
 v22:=Tryz.zeroValue91 }
theorem infoR:(Tryz.prog.info? 23).any (fun i=>i.size == 1 && i.bytes == 24 && match i.zero with|some z=>z.cells.size == 1|none=>false)=true:=by kernel_rfl
theorem cloneR_ok:CloneROk:=fun l hl=>by
 refine clone_sem (e:=23) (fun r hr=>by obtain ⟨c,_,rfl⟩:=List.mem_map.1 hr;rfl) (fun w=>AnyE.slices_Clone_nil laysR 0 0 w) cloneR_zero fun b o c news w hn hc h1 _ => ?_
 have hi:=infoR
 rw [Option.any_eq_true] at hi
 obtain ⟨i0,hi0,hi1⟩:=hi
 simp only [Bool.and_eq_true,beq_iff_eq] at hi1
 obtain ⟨⟨h6,h88⟩,hz⟩:=hi1
 cases hz0:i0.zero with
 |none=>rw [hz0] at hz;cases hz
 |some z=>
  rw [hz0] at hz
  rw [List.length_map] at hn ⊢
  exact AnyE.slices_Clone laysR i0 z 1 24 hi0 hz0 h6 h88 (by simpa using hz) (by decide) Tryz.sizeOf23 b o l.length c news w hn (by unfold maxLen;omega) (by omega) hc h1
theorem cloneB_zero (A:Addr) (c:Nat) (w:World):Calls Tryz.prog 37 #[.slice (some A) 0 c] w fun x w'=>∃ v',x=.returned v'∧w'.ownsRow w.heap.size 78 4 v' 0 []∧v' ≠ .slice none 0 0∧Below w.heap.size w w':=by
 go_enter Tryz.func37,Tryz.ntmps37
 go_wp2
 rw [(run_slNil Tryz.underlying26).1]
 go_wp2
 go_ret
 refine ⟨.slice (some ⟨w.heap.size,0,none⟩) 0 0,rfl,⟨rfl,.inr ⟨w.heap.size,0,#[],rfl,Nat.le_refl _,?_,Nat.le_refl _,Nat.zero_le _,rfl,rfl⟩⟩,(by intro h;cases h),Ext.alloc _ _⟩
 show (w.heap.push _)[w.heap.size]?=_
 rw [Array.getElem?_push,if_pos rfl]
def laysB_ren:Go.Shelf.Ren:=⟨fun|41=>37|n=>n,fun|22=>26|23=>78|4=>4|n=>n,fun|n=>n⟩
theorem laysB:Go.Proofs.SlLaysE0.n41 Tryz.prog laysB_ren:={
 mixed:=by kernel_rfl
 f41:=⟨Tryz.f37.name,by decide,Tryz.func37.trans (congrArg some (by kernel_rfl))⟩
 t4:=Tryz.underlying4
 a4:=Tryz.isAgg4
 z4:=Tryz.sizeOf4
 v4:=Tryz.zeroValue4
 t22:=Tryz.underlying26
 a22:=Tryz.isAgg26
 z22:=Tryz.sizeOf26
 v22:=Tryz.zeroValue26 }
theorem infoB:(Tryz.prog.info? 78).any (fun i=>i.size == 4 && i.bytes == 80 && match i.zero with|some z=>z.cells.size == 4|none=>false)=true:=by kernel_rfl
theorem cloneB_ok:BrCloneOk:=fun l hl=>by
 refine clone_sem (e:=78) (fun r hr=>by obtain ⟨c,_,rfl⟩:=List.mem_map.1 hr;(obtain ⟨a1,a2,a3,a4⟩:=c;rw [Br.row_mk];rfl)) (fun w=>AnyE.slices_Clone_nil laysB 0 0 w) cloneB_zero fun b o c news w hn hc h1 _ => ?_
 have hi:=infoB
 rw [Option.any_eq_true] at hi
 obtain ⟨i0,hi0,hi1⟩:=hi
 simp only [Bool.and_eq_true,beq_iff_eq] at hi1
 obtain ⟨⟨h6,h88⟩,hz⟩:=hi1
 cases hz0:i0.zero with
 |none=>rw [hz0] at hz;cases hz
 |some z=>
  rw [hz0] at hz
  rw [List.length_map] at hn ⊢
  exact AnyE.slices_Clone laysB i0 z 4 80 hi0 hz0 h6 h88 (by simpa using hz) (by decide) Tryz.sizeOf78 b o l.length c news w hn (by unfold maxLen;omega) (by omega) hc h1
theorem segClone_ok:SegCloneOk:=fun t els hl hn=>segClone_sem cloneE_ok cloneR_ok (fun p hp=>cloneS_sem p (by omega)) t els hl hn
end Go.Proofs.YtdhlopciapncfaaGreatDoor
