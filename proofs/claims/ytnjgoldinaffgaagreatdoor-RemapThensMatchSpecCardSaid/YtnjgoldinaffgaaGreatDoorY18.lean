/- strings.Split at one byte, and the last place of a byte. -/
import Derived.Test.YtnjgoldinaffgaaGreatDoorY17
namespace Go.Proofs.YtnjgoldinaffgaaGreatDoor
set_option linter.unusedSimpArgs false
set_option linter.unusedVariables false
open Go.RowKit
set_option maxRecDepth 100000
set_option maxHeartbeats 1000000
theorem eV (s:Str) (c:UInt8) (hs:s.length < 4294967281):Sem Tryz.prog 79 [.str s,.str [c]] (.sl 2 1 ((aF c s).map fun x => [.str x])):=by
 refine ⟨inferInstance,rfl,fun S w vs hw hl hr => ?_⟩
 obtain rfl:=rV (q:=fun i=>.slot i) (us := [.string ⟨s.toArray⟩,.string ⟨#[c]⟩]) rfl hl hr
 have hsz:(⟨s.toArray⟩:ByteArray).size=s.length:=by show s.toArray.size=_;simp
 obtain ⟨m,hm⟩:=zHj (g:=0) rfl hw.gl
 have hcount:Lib.countB ⟨s.toArray⟩ ⟨#[c]⟩=s.count c:=Lib.count_one c _
 have hle:s.count c≤s.length:=List.count_le_length
 have hlen:=Lib.splitB_all ⟨#[c]⟩ (Nat.le_refl 1) 0 (s.count c) ⟨s.toArray⟩ hcount
 have hsp:=zCu (c:=c) ⟨s.toArray⟩
 rw [hcount] at hsp
 refine (Tryz.strings_Split ⟨s.toArray⟩ ⟨#[c]⟩ m w (by rw [hsz];exact hs) hm (Nat.le_refl 1)).mono fun e w' ⟨he,hw'⟩ => ?_
 rw [hcount] at he hw'
 generalize Lib.splitB ⟨#[c]⟩ 0 (s.count c) ⟨s.toArray⟩=L at he hw' hlen hsp
 have hrows:(aF c s).map (fun x => [D.str x])=L.map fun x => [D.str x.data.toList]:=by
  rw [← (show aF c (⟨s.toArray⟩:ByteArray).data.toList=aF c s by simp),← hsp,List.map_map]
  rfl
 rw [hrows]
 obtain ⟨S',k1,k2,k3⟩:=uB (v:=.slice (some ⟨w.heap.size,0,none⟩) L.length (s.count c+1)) (sz:=1) (rows:=L.map fun x => [D.str x.data.toList]) (news:=L.map Value.string) (t:=9) hw (w':=w') (by subst hw';exact Ext.alloc _ _) (fun r hr=>by
  obtain ⟨x,_,rfl⟩:=List.mem_map.1 hr
  rfl) (fun u hu=>by
  obtain ⟨x,_,rfl⟩:=List.mem_map.1 hu
  rfl) (fun k r j d hk hd=>by
  rw [List.getElem?_map] at hk
  cases hlk:L[k]? with
  |none=>rw [hlk] at hk;cases hk
  |some x=>
   rw [hlk] at hk
   cases hk
   match j,hd with
   |0,hd=>
    cases hd
    exact ⟨.string x,by simp [hlk],.str x.data.toList⟩
   | j+1,hd=>simp at hd) ⟨by simp,.inr ⟨w.heap.size,s.count c+1,_,by simp,Nat.le_refl _,by subst hw';exact heap_alloc_new w _,by simp;omega,by unfold maxLen;omega,by simp;omega,by simp;exact List.take_of_length_le (by simp)⟩⟩
 rw [← hlen] at he
 rw [← hlen] at k3
 exact ⟨_,S',he,k1,k2,k3⟩
theorem iO (s:Str) (c:UInt8) (hs:s.length < 4611686018427387904):Sem Tryz.prog 83 [.str s,.int .u8 c.toNat] (.int .i64 (Lib.lastIndexByte ⟨s.toArray⟩ c.toNat)):=
 lT (us := [.string ⟨s.toArray⟩,.int .u8 c.toNat]) (v:=.int .i64 (Lib.lastIndexByte ⟨s.toArray⟩ c.toNat)) rfl rfl (fun _ _=>.int _ _) fun w=>
  (Tryz.strings_LastIndexByte ⟨s.toArray⟩ c.toNat (by show s.toArray.size < _;simpa using hs) w).mono fun e w' ⟨h1,h2⟩=>⟨h1,h2 ▸ Ext.refl _⟩
end Go.Proofs.YtnjgoldinaffgaaGreatDoor
