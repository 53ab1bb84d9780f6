/- The contracts of slices.Sorted at what maps.Keys hands back (laid by the kit). -/
import Derived.Shelf.SlIter.Nil
import Derived.Shelf.SortM.Plain
import Derived.Shelf.SortM.SortNone
import Derived.Ground.GgzProg
import Derived.Ground.SlgmProg
import Derived.Test.YtnjgoldinaffgaaGreatDoorProg
namespace Go.Proofs
open _root_.Go.Proofs.Tryz
open Go.RowKit Go.Maps Go.Sort Go.Shelf
set_option maxHeartbeats 1000000
def yO:Go.Shelf.Ren:=⟨fun|7=>40|10=>74|n=>n,fun|23=>88|26=>9|3=>51|28=>93|0=>0|27=>92|33=>79|4=>4|n=>n,fun|n=>n⟩
theorem zI0:Go.Proofs.SlLaysZ.n7 Tryz.prog yO:={
 mixed:=by kernel_rfl
 f7:=⟨f40.name,by decide,func40.trans (congrArg some (by kernel_rfl))⟩
 f10:=⟨f74.name,by decide,func74.trans (congrArg some (by kernel_rfl))⟩
 t0:=underlying0
 a0:=isAgg0
 z0:=sizeOf0
 v0:=zeroValue0
 t4:=underlying4
 a4:=isAgg4
 z4:=sizeOf4
 v4:=zeroValue4
 t23:=underlying88
 a23:=isAgg88
 z23:=sizeOf88
 v23:=zeroValue88
 t26:=underlying9
 a26:=isAgg9
 z26:=sizeOf9
 v26:=zeroValue9
 t27:=underlying92
 a27:=isAgg92
 z27:=sizeOf92
 v27:=zeroValue92
 t28:=underlying93
 a28:=isAgg93
 z28:=sizeOf93
 v28:=zeroValue93
 t33:=underlying79
 a33:=isAgg79
 z33:=sizeOf79
 v33:=zeroValue79 }
def sA:Go.Shelf.Ren:=⟨fun|6=>39|8=>72|9=>73|11=>117|13=>61|12=>118|23=>98|24=>99|14=>159|15=>160|16=>161|17=>162|18=>163|19=>164|20=>165|21=>166|22=>167|25=>193|26=>144|27=>145|28=>194|29=>195|30=>196|31=>219|n=>n,fun|26=>9|28=>93|24=>52|0=>0|3=>3|37=>125|48=>160|50=>162|4=>4|40=>154|39=>153|45=>147|5=>5|9=>9|51=>191|55=>195|57=>224|58=>225|33=>79|n=>n,fun|n=>n⟩
theorem zCv:Go.Proofs.SlLaysZ.n6 Tryz.prog sA:={
 mixed:=by kernel_rfl
 f6:=⟨Tryz.f39.name,by decide,func39.trans (congrArg some (by kernel_rfl))⟩
 f8:=⟨f72.name,by decide,func72.trans (congrArg some (by kernel_rfl))⟩
 f11:=⟨f117.name,by decide,func117.trans (congrArg some (by kernel_rfl))⟩
 t0:=underlying0
 a0:=isAgg0
 z0:=sizeOf0
 v0:=zeroValue0
 t24:=underlying52
 a24:=isAgg52
 z24:=sizeOf52
 v24:=zeroValue52
 t26:=underlying9
 a26:=isAgg9
 z26:=sizeOf9
 v26:=zeroValue9
 t28:=underlying93
 a28:=isAgg93
 z28:=sizeOf93
 v28:=zeroValue93
 i26:=by kernel_rfl }
def zEp:Go.Shelf.Ren:=⟨fun|6=>73|8=>61|9=>118|19=>98|20=>99|21=>159|22=>160|23=>161|24=>162|25=>163|26=>164|27=>165|28=>166|29=>167|36=>193|31=>144|32=>145|37=>194|38=>195|39=>196|41=>219|n=>n,fun|27=>52|29=>9|3=>3|32=>125|26=>52|0=>0|44=>160|46=>162|4=>4|36=>154|35=>153|41=>147|5=>5|9=>9|53=>191|57=>195|63=>224|64=>225|n=>n,fun|n=>n⟩
theorem zH2:Go.Proofs.SlLaysM.n6 Tryz.prog zEp:={
 mixed:=by kernel_rfl
 f6:=⟨f73.name,by decide,func73.trans (congrArg some (by kernel_rfl))⟩
 f8:=func61.trans (congrArg some (by kernel_rfl))
 f9:=⟨f118.name,by decide,func118.trans (congrArg some (by kernel_rfl))⟩
 f19:=func98.trans (congrArg some (by kernel_rfl))
 f20:=func99.trans (congrArg some (by kernel_rfl))
 f21:=⟨f159.name,by decide,func159.trans (congrArg some (by kernel_rfl))⟩
 f22:=⟨Tryz.f160.name,by decide,func160.trans (congrArg some (by kernel_rfl))⟩
 f23:=⟨f161.name,by decide,func161.trans (congrArg some (by kernel_rfl))⟩
 f24:=⟨f162.name,by decide,func162.trans (congrArg some (by kernel_rfl))⟩
 f25:=⟨f163.name,by decide,func163.trans (congrArg some (by kernel_rfl))⟩
 f26:=⟨f164.name,by decide,func164.trans (congrArg some (by kernel_rfl))⟩
 f27:=⟨f165.name,by decide,func165.trans (congrArg some (by kernel_rfl))⟩
 f28:=⟨f166.name,by decide,func166.trans (congrArg some (by kernel_rfl))⟩
 f29:=⟨f167.name,by decide,func167.trans (congrArg some (by kernel_rfl))⟩
 f31:=func144.trans (congrArg some (by kernel_rfl))
 f32:=func145.trans (congrArg some (by kernel_rfl))
 f36:=⟨f193.name,by decide,func193.trans (congrArg some (by kernel_rfl))⟩
 f37:=⟨f194.name,by decide,func194.trans (congrArg some (by kernel_rfl))⟩
 f38:=⟨Tryz.f195.name,by decide,func195.trans (congrArg some (by kernel_rfl))⟩
 f39:=⟨f196.name,by decide,func196.trans (congrArg some (by kernel_rfl))⟩
 f41:=⟨Tryz.f219.name,by decide,func219.trans (congrArg some (by kernel_rfl))⟩
 t0:=underlying0
 a0:=isAgg0
 z0:=sizeOf0
 v0:=zeroValue0
 t3:=underlying3
 a3:=isAgg3
 z3:=sizeOf3
 v3:=zeroValue3
 t4:=underlying4
 a4:=isAgg4
 z4:=sizeOf4
 v4:=zeroValue4
 t5:=underlying5
 a5:=isAgg5
 z5:=sizeOf5
 v5:=zeroValue5
 t9:=underlying9
 a9:=isAgg9
 z9:=sizeOf9
 v9:=zeroValue9
 t26:=underlying52
 a26:=isAgg52
 z26:=sizeOf52
 v26:=zeroValue52
 t27:=underlying52
 a27:=isAgg52
 z27:=sizeOf52
 v27:=zeroValue52
 t29:=underlying9
 a29:=isAgg9
 z29:=sizeOf9
 v29:=zeroValue9
 t32:=underlying125
 a32:=isAgg125
 z32:=sizeOf125
 v32:=zeroValue125
 t35:=underlying153
 a35:=isAgg153
 z35:=sizeOf153
 v35:=zeroValue153
 t36:=underlying154
 a36:=isAgg154
 z36:=sizeOf154
 v36:=zeroValue154
 t41:=underlying147
 a41:=isAgg147
 z41:=sizeOf147
 v41:=zeroValue147
 t44:=underlying160
 a44:=isAgg160
 z44:=sizeOf160
 v44:=zeroValue160
 t46:=underlying162
 a46:=isAgg162
 z46:=sizeOf162
 v46:=zeroValue162
 t53:=underlying191
 a53:=isAgg191
 z53:=sizeOf191
 v53:=zeroValue191
 t57:=underlying195
 a57:=isAgg195
 z57:=sizeOf195
 v57:=zeroValue195
 t63:=underlying224
 a63:=isAgg224
 z63:=sizeOf224
 v63:=zeroValue224
 t64:=underlying225
 a64:=isAgg225
 z64:=sizeOf225
 v64:=zeroValue225 }
def yN:Go.Shelf.Ren:=⟨fun|7=>80|10=>124|n=>n,fun|23=>105|26=>9|3=>4|28=>93|0=>0|27=>92|33=>79|4=>4|n=>n,fun|n=>n⟩
theorem zIZ:Go.Proofs.SlLaysZ.n7 Tryz.prog yN:={
 mixed:=by kernel_rfl
 f7:=⟨f80.name,by decide,func80.trans (congrArg some (by kernel_rfl))⟩
 f10:=⟨f124.name,by decide,func124.trans (congrArg some (by kernel_rfl))⟩
 t0:=underlying0
 a0:=isAgg0
 z0:=sizeOf0
 v0:=zeroValue0
 t4:=underlying4
 a4:=isAgg4
 z4:=sizeOf4
 v4:=zeroValue4
 t23:=underlying105
 a23:=isAgg105
 z23:=sizeOf105
 v23:=zeroValue105
 t26:=underlying9
 a26:=isAgg9
 z26:=sizeOf9
 v26:=zeroValue9
 t27:=underlying92
 a27:=isAgg92
 z27:=sizeOf92
 v27:=zeroValue92
 t28:=underlying93
 a28:=isAgg93
 z28:=sizeOf93
 v28:=zeroValue93
 t33:=underlying79
 a33:=isAgg79
 z33:=sizeOf79
 v33:=zeroValue79 }
theorem zFu (m:Nat):AnyZ.SortsIn Tryz.prog sA Fence.wide m:=
  ⟨fun blk off cap ss W hH hblk hsz=>callsIn_wide.2 (AnyM.slices_Sort_string zH2 blk off cap ss W hH hblk hsz),
   fun p cap W=>callsIn_wide.2 (AnyM.slices_Sort_string_none zH2 p cap W)⟩
theorem zBT (mb:Option Nat) (W:World):CallsIn Fence.wide 5 Tryz.prog 40 #[.map mb] W fun e w'=>e=.returned (.func (.func 74) #[] #[.pointer (some ⟨W.heap.size,0,none⟩)])∧w'=W.alloc (.cells #[.map mb] 88):=
 AnyZ.keys_in zI0 Fence.wide 5 trivial rfl mb W
theorem lI {H:Type} (b nn:Nat) (D0:DataW H) (R:Value→Option (DataW H × List MemPlace)) (w:World) (hown:w.ownsMap Tryz.prog 9 R b nn D0) (hmax:Maps.size D0≤maxLen) (hbytes:Maps.size D0 * 16≤140737488355328):
  CallsIn Fence.wide 5 Tryz.prog 39 #[.func (.func 74) #[] #[.pointer (some ⟨w.heap.size,0,none⟩)]] (w.alloc (.cells #[.map (some b)] 88)) fun e w'=>∃ (v:Value) (ss:List (List UInt8)),e=.returned v∧ss.Perm (strKeys D0)∧
   w'.ownsRow (w.alloc (.cells #[.map (some b)] 88)).heap.size 9 1 v ss.length ((ss.mergeSort (fun x y=>decide (x≤y))).map encStr)∧(v=.slice none 0 0↔ss = [])∧Below (w.alloc (.cells #[.map (some b)] 88)).heap.size (w.alloc (.cells #[.map (some b)] 88)) w':=by
 have hbl:=hown.lt
 have hseq:SeqGives Fence.wide 2 Tryz.prog 74 #[.pointer (some ⟨w.heap.size,0,none⟩)] encStr (fun ss=>ss.Perm (strKeys D0)) (Maps.size D0) (w.alloc (.cells #[.map (some b)] 88)):=
  AnyZ.keys_gives (ρ:=yO) { zI0 with } Fence.wide _ trivial rfl (by omega) w.heap.size b nn D0 _ (by simp) (by simp) (by
   obtain ⟨es,clock,hb,Ft,hs,hD⟩:=hown
   exact ⟨es,clock,(Below.heap_alloc _ _ b hbl).trans hb,Ft,hs,hD⟩)
 exact AnyZ.sorted_in zCv Fence.wide 5 trivial trivial trivial trivial rfl (by omega) (zFu _) (enters_of func73 (by kernel_rfl) rfl) 74 #[.pointer (some ⟨w.heap.size,0,none⟩)] trivial (enters_of func74 (by kernel_rfl) rfl) _ _ hmax hbytes _ hseq
theorem zBS (mb:Option Nat) (W:World):CallsIn Fence.wide 5 Tryz.prog 80 #[.map mb] W fun e w'=>e=.returned (.func (.func 124) #[] #[.pointer (some ⟨W.heap.size,0,none⟩)])∧w'=W.alloc (.cells #[.map mb] 105):=
 AnyZ.keys_in zIZ Fence.wide 5 trivial rfl mb W
theorem lH {H:Type} (b nn:Nat) (D0:DataW H) (R:Value→Option (DataW H × List MemPlace)) (w:World) (hown:w.ownsMap Tryz.prog 9 R b nn D0) (hmax:Maps.size D0≤maxLen) (hbytes:Maps.size D0 * 16≤140737488355328):
  CallsIn Fence.wide 5 Tryz.prog 39 #[.func (.func 124) #[] #[.pointer (some ⟨w.heap.size,0,none⟩)]] (w.alloc (.cells #[.map (some b)] 105)) fun e w'=>∃ (v:Value) (ss:List (List UInt8)),e=.returned v∧ss.Perm (strKeys D0)∧
   w'.ownsRow (w.alloc (.cells #[.map (some b)] 105)).heap.size 9 1 v ss.length ((ss.mergeSort (fun x y=>decide (x≤y))).map encStr)∧(v=.slice none 0 0↔ss = [])∧Below (w.alloc (.cells #[.map (some b)] 105)).heap.size (w.alloc (.cells #[.map (some b)] 105)) w':=by
 have hbl:=hown.lt
 have hseq:SeqGives Fence.wide 2 Tryz.prog 124 #[.pointer (some ⟨w.heap.size,0,none⟩)] encStr (fun ss=>ss.Perm (strKeys D0)) (Maps.size D0) (w.alloc (.cells #[.map (some b)] 105)):=
  AnyZ.keys_gives (ρ:=yN) { zIZ with } Fence.wide _ trivial rfl (by omega) w.heap.size b nn D0 _ (by simp) (by simp) (by
   obtain ⟨es,clock,hb,Ft,hs,hD⟩:=hown
   exact ⟨es,clock,(Below.heap_alloc _ _ b hbl).trans hb,Ft,hs,hD⟩)
 exact AnyZ.sorted_in zCv Fence.wide 5 trivial trivial trivial trivial rfl (by omega) (zFu _) (enters_of func73 (by kernel_rfl) rfl) 124 #[.pointer (some ⟨w.heap.size,0,none⟩)] trivial (enters_of func124 (by kernel_rfl) rfl) _ _ hmax hbytes _ hseq
end Go.Proofs
