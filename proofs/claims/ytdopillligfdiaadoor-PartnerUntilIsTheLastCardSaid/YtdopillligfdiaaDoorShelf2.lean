/- The contracts of the library that the claim uses, laid over this translation by the kit (its plain mode), cut down to what is used. -/
import Derived.Test.YtdopillligfdiaaDoorProg
import Derived.Shelf.LaysM
import Derived.Shelf.Sort.Plain
import Derived.Shelf.Slices.CompactI
import Derived.Shelf.Slices.In.SortNone
namespace Go.Proofs
set_option linter.unusedSimpArgs false
set_option linter.unusedVariables false
open Go.Shelf
def Tryd.lays189_ren : Go.Shelf.Ren := ⟨fun | 189 => 118 | 125 => 150 | 257 => 149 | 128 => 178 | 129 => 179 | 294 => 169 | 295 => 170 | 296 => 171 | 297 => 172 | 298 => 173 | 299 => 174 | 216 => 175 | 300 => 176 | 301 => 177 | 328 => 199 | 329 => 200 | 330 => 201 | 331 => 202 | 332 => 203 | 215 => 204 | 343 => 224 | n => n, fun | 28 => 51 | 3 => 3 | 46 => 173 | 0 => 0 | 51 => 200 | 53 => 177 | 4 => 4 | 183 => 193 | 182 => 192 | 131 => 133 | 5 => 5 | 9 => 9 | 218 => 218 | 222 => 222 | 228 => 246 | 229 => 247 | n => n, fun | n => n⟩
theorem Tryd.lays189 : Go.Proofs.Lays.n189 Tryd.prog Tryd.lays189_ren := {
  mixed := by kernel_rfl
  f125 := Tryd.func150.trans (congrArg some (by kernel_rfl))
  f128 := Tryd.func178.trans (congrArg some (by kernel_rfl))
  f129 := Tryd.func179.trans (congrArg some (by kernel_rfl))
  f189 := Tryd.func118.trans (congrArg some (by kernel_rfl))
  f215 := Tryd.func204.trans (congrArg some (by kernel_rfl))
  f216 := Tryd.func175.trans (congrArg some (by kernel_rfl))
  f257 := Tryd.func149.trans (congrArg some (by kernel_rfl))
  f294 := Tryd.func169.trans (congrArg some (by kernel_rfl))
  f295 := Tryd.func170.trans (congrArg some (by kernel_rfl))
  f296 := Tryd.func171.trans (congrArg some (by kernel_rfl))
  f297 := Tryd.func172.trans (congrArg some (by kernel_rfl))
  f298 := Tryd.func173.trans (congrArg some (by kernel_rfl))
  f299 := Tryd.func174.trans (congrArg some (by kernel_rfl))
  f300 := Tryd.func176.trans (congrArg some (by kernel_rfl))
  f301 := Tryd.func177.trans (congrArg some (by kernel_rfl))
  f328 := Tryd.func199.trans (congrArg some (by kernel_rfl))
  f329 := Tryd.func200.trans (congrArg some (by kernel_rfl))
  f330 := Tryd.func201.trans (congrArg some (by kernel_rfl))
  f331 := Tryd.func202.trans (congrArg some (by kernel_rfl))
  f332 := Tryd.func203.trans (congrArg some (by kernel_rfl))
  f343 := Tryd.func224.trans (congrArg some (by kernel_rfl))
  t0 := Tryd.underlying0
  a0 := Tryd.isAgg0
  z0 := Tryd.sizeOf0
  v0 := Tryd.zeroValue0
  t3 := Tryd.underlying3
  a3 := Tryd.isAgg3
  z3 := Tryd.sizeOf3
  v3 := Tryd.zeroValue3
  t4 := Tryd.underlying4
  a4 := Tryd.isAgg4
  z4 := Tryd.sizeOf4
  v4 := Tryd.zeroValue4
  t5 := Tryd.underlying5
  a5 := Tryd.isAgg5
  z5 := Tryd.sizeOf5
  v5 := Tryd.zeroValue5
  t9 := Tryd.underlying9
  a9 := Tryd.isAgg9
  z9 := Tryd.sizeOf9
  v9 := Tryd.zeroValue9
  t28 := Tryd.underlying51
  a28 := Tryd.isAgg51
  z28 := Tryd.sizeOf51
  v28 := Tryd.zeroValue51
  t46 := Tryd.underlying173
  a46 := Tryd.isAgg173
  z46 := Tryd.sizeOf173
  v46 := Tryd.zeroValue173
  t51 := Tryd.underlying200
  a51 := Tryd.isAgg200
  z51 := Tryd.sizeOf200
  v51 := Tryd.zeroValue200
  t53 := Tryd.underlying177
  a53 := Tryd.isAgg177
  z53 := Tryd.sizeOf177
  v53 := Tryd.zeroValue177
  t131 := Tryd.underlying133
  a131 := Tryd.isAgg133
  z131 := Tryd.sizeOf133
  v131 := Tryd.zeroValue133
  t182 := Tryd.underlying192
  a182 := Tryd.isAgg192
  z182 := Tryd.sizeOf192
  v182 := Tryd.zeroValue192
  t183 := Tryd.underlying193
  a183 := Tryd.isAgg193
  z183 := Tryd.sizeOf193
  v183 := Tryd.zeroValue193
  t218 := Tryd.underlying218
  a218 := Tryd.isAgg218
  z218 := Tryd.sizeOf218
  v218 := Tryd.zeroValue218
  t222 := Tryd.underlying222
  a222 := Tryd.isAgg222
  z222 := Tryd.sizeOf222
  v222 := Tryd.zeroValue222
  t228 := Tryd.underlying246
  a228 := Tryd.isAgg246
  z228 := Tryd.sizeOf246
  v228 := Tryd.zeroValue246
  t229 := Tryd.underlying247
  a229 := Tryd.isAgg247
  z229 := Tryd.sizeOf247
  v229 := Tryd.zeroValue247 }
open Go.Sort Go.RowKit in
theorem Tryd.slices_Sort_int (blk off cap : Nat) (zs : List Int) (w : World) (hH : Holds (Value.int .i64) w blk off zs.toArray) (hblk : blk < w.heap.size) (hsz : zs.length < 4611686018427387904) :
    Calls Tryd.prog 118 #[.slice (some ⟨blk, off, none⟩) zs.length cap] w fun e w' =>
      e = .returned (.tuple #[]) ∧ ∃ n os, w' = grow (putRow (Value.int .i64) (Sort.ahead w n) blk off (zs.mergeSort fun x y => decide (x ≤ y)).toArray) os := Any.slices_Sort_int Tryd.lays189 blk off cap zs w hH hblk hsz
def Tryd.laysNm220_ren : Go.Shelf.Ren := ⟨fun | 20 => 119 | n => n, fun | 22 => 51 | 3 => 3 | 4 => 4 | 0 => 0 | n => n, fun | n => n⟩
theorem Tryd.laysNm220 : Go.Proofs.Lays2.n20 Tryd.prog Tryd.laysNm220_ren := {
  mixed := by kernel_rfl
  f20 := Tryd.func119.trans (congrArg some (by kernel_rfl))
  t0 := Tryd.underlying0
  a0 := Tryd.isAgg0
  z0 := Tryd.sizeOf0
  v0 := Tryd.zeroValue0
  t3 := Tryd.underlying3
  a3 := Tryd.isAgg3
  z3 := Tryd.sizeOf3
  v3 := Tryd.zeroValue3
  t4 := Tryd.underlying4
  a4 := Tryd.isAgg4
  z4 := Tryd.sizeOf4
  v4 := Tryd.zeroValue4
  t22 := Tryd.underlying51
  a22 := Tryd.isAgg51
  z22 := Tryd.sizeOf51
  v22 := Tryd.zeroValue51
  i3 := by kernel_rfl }
open Go.RowKit Go.Lib Go.Sort in
theorem Tryd.slices_Compact_int (blk off cap : Nat) (zs : List Int) (w : World) (hH : Holds (Value.int .i64) w blk off zs.toArray) (hsz : zs.length ≤ 9223372036854775807) (hcap : zs.length ≤ cap) :
    Calls Tryd.prog 119 #[.slice (some ⟨blk, off, none⟩) zs.length cap] w fun e w' => e = .returned (.slice (some ⟨blk, off, none⟩) (Lib.compact zs).length cap) ∧ ∃ q, w' = putRow (Value.int .i64) (Sort.ahead w q) blk off (Lib.compact zs ++ List.replicate (zs.length - (Lib.compact zs).length) 0).toArray := Any.slices_Compact_int Tryd.laysNm220 blk off cap zs w hH hsz hcap
open Go.RowKit Go.Lib Go.Sort in
theorem Tryd.slices_Compact_int_empty (a : Option Addr) (cap : Nat) (w : World) :
    Calls Tryd.prog 119 #[.slice a 0 cap] w fun e w' => e = .returned (.slice a 0 cap) ∧ w' = w := Any.slices_Compact_int_empty Tryd.laysNm220 a cap w
open Go.RowKit Go.Sort in
theorem Tryd.slices_Sort_int_none (p : Option Addr) (cap : Nat) (w : World) :
    Calls Tryd.prog 118 #[.slice p 0 cap] w fun e w' => e = .returned (.tuple #[]) ∧ w' = w := Any.slices_Sort_int_none Tryd.lays189 p cap w
end Go.Proofs
