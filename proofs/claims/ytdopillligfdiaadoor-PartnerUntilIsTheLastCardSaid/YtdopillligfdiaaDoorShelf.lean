/- The contracts of the library that the claim uses, laid over this translation by the kit (its plain mode), cut down to what is used. -/
import Derived.Test.YtdopillligfdiaaDoorProg
import Derived.Shelf.Strings.SlTrimAscii
import Derived.Shelf.Small.Strs
import Derived.Shelf.LaysM
namespace Go.Proofs
set_option linter.unusedSimpArgs false
set_option linter.unusedVariables false
open Go.Shelf
def Tryd.lays160_ren : Go.Shelf.Ren := ⟨fun | 160 => 100 | 232 => 130 | 231 => 129 | 227 => 131 | 234 => 133 | 233 => 132 | 236 => 135 | 235 => 134 | 228 => 159 | 271 => 162 | 151 => 161 | 197 => 160 | 120 => 198 | 152 => 197 | 260 => 196 | 137 => 220 | 119 => 221 | 224 => 222 | 225 => 223 | 217 => 231 | 266 => 237 | n => n, fun | 9 => 9 | 4 => 4 | 3 => 3 | 5 => 5 | 117 => 162 | 116 => 161 | 0 => 0 | 124 => 165 | 21 => 21 | 105 => 185 | 46 => 173 | 119 => 241 | 139 => 244 | 138 => 243 | n => n, fun | 3 => 3 | 4 => 4 | n => n⟩
theorem Tryd.lays160 : Go.Proofs.Lays.n160 Tryd.prog Tryd.lays160_ren := {
  mixed := by kernel_rfl
  f119 := Tryd.func221.trans (congrArg some (by kernel_rfl))
  f120 := Tryd.func198.trans (congrArg some (by kernel_rfl))
  f137 := Tryd.func220.trans (congrArg some (by kernel_rfl))
  f151 := Tryd.func161.trans (congrArg some (by kernel_rfl))
  f152 := Tryd.func197.trans (congrArg some (by kernel_rfl))
  f160 := Tryd.func100.trans (congrArg some (by kernel_rfl))
  f197 := Tryd.func160.trans (congrArg some (by kernel_rfl))
  f217 := Tryd.func231.trans (congrArg some (by kernel_rfl))
  f224 := Tryd.func222.trans (congrArg some (by kernel_rfl))
  f225 := Tryd.func223.trans (congrArg some (by kernel_rfl))
  f227 := Tryd.func131.trans (congrArg some (by kernel_rfl))
  f228 := Tryd.func159.trans (congrArg some (by kernel_rfl))
  f231 := Tryd.func129.trans (congrArg some (by kernel_rfl))
  f232 := Tryd.func130.trans (congrArg some (by kernel_rfl))
  f233 := Tryd.func132.trans (congrArg some (by kernel_rfl))
  f234 := Tryd.func133.trans (congrArg some (by kernel_rfl))
  f235 := Tryd.func134.trans (congrArg some (by kernel_rfl))
  f236 := Tryd.func135.trans (congrArg some (by kernel_rfl))
  f260 := Tryd.func196.trans (congrArg some (by kernel_rfl))
  f266 := Tryd.func237.trans (congrArg some (by kernel_rfl))
  f271 := Tryd.func162.trans (congrArg some (by kernel_rfl))
  t0 := Tryd.underlying0
  a0 := Tryd.isAgg0
  z0 := Tryd.sizeOf0
  v0 := Tryd.zeroValue0
  t3 := Tryd.underlying3
  a3 := Tryd.isAgg3
  z3 := Tryd.sizeOf3
  v3 := Tryd.zeroValue3
  t4 := Tryd.underlying4
  a4 := Tryd.isAgg4
  z4 := Tryd.sizeOf4
  v4 := Tryd.zeroValue4
  t5 := Tryd.underlying5
  a5 := Tryd.isAgg5
  z5 := Tryd.sizeOf5
  v5 := Tryd.zeroValue5
  t9 := Tryd.underlying9
  a9 := Tryd.isAgg9
  z9 := Tryd.sizeOf9
  v9 := Tryd.zeroValue9
  t21 := Tryd.underlying21
  a21 := Tryd.isAgg21
  z21 := Tryd.sizeOf21
  v21 := Tryd.zeroValue21
  t46 := Tryd.underlying173
  a46 := Tryd.isAgg173
  z46 := Tryd.sizeOf173
  v46 := Tryd.zeroValue173
  t105 := Tryd.underlying185
  a105 := Tryd.isAgg185
  z105 := Tryd.sizeOf185
  v105 := Tryd.zeroValue185
  t116 := Tryd.underlying161
  a116 := Tryd.isAgg161
  z116 := Tryd.sizeOf161
  t117 := Tryd.underlying162
  a117 := Tryd.isAgg162
  z117 := Tryd.sizeOf162
  v117 := Tryd.zeroValue162
  t119 := Tryd.underlying241
  a119 := Tryd.isAgg241
  z119 := Tryd.sizeOf241
  t124 := Tryd.underlying165
  a124 := Tryd.isAgg165
  z124 := Tryd.sizeOf165
  v124 := Tryd.zeroValue165
  t138 := Tryd.underlying243
  a138 := Tryd.isAgg243
  z138 := Tryd.sizeOf243
  v138 := Tryd.zeroValue243
  t139 := Tryd.underlying244
  a139 := Tryd.isAgg244
  z139 := Tryd.sizeOf244
  v139 := Tryd.zeroValue244
  g3 := by kernel_rfl
  g4 := by kernel_rfl }
def Tryd.lays106_ren : Go.Shelf.Ren := ⟨fun | 106 => 116 | 213 => 148 | 265 => 168 | n => n, fun | 9 => 9 | 3 => 3 | n => n, fun | n => n⟩
theorem Tryd.lays106 : Go.Proofs.Lays.n106 Tryd.prog Tryd.lays106_ren := {
  mixed := by kernel_rfl
  f106 := Tryd.func116.trans (congrArg some (by kernel_rfl))
  f213 := Tryd.func148.trans (congrArg some (by kernel_rfl))
  f265 := Tryd.func168.trans (congrArg some (by kernel_rfl))
  t3 := Tryd.underlying3
  a3 := Tryd.isAgg3
  z3 := Tryd.sizeOf3
  v3 := Tryd.zeroValue3
  t9 := Tryd.underlying9
  a9 := Tryd.isAgg9
  z9 := Tryd.sizeOf9
  v9 := Tryd.zeroValue9 }
open Go.RowKit in
theorem Tryd.strings_Compare (a b : ByteArray) (w : World) :
    Calls Tryd.prog 116 #[.string a, .string b] w fun e w' => e = .returned (.int .i64 (Lib.compareBytes a.data.toList b.data.toList)) ∧ w' = w := Any.strings_Compare Tryd.lays106 a b w
end Go.Proofs
