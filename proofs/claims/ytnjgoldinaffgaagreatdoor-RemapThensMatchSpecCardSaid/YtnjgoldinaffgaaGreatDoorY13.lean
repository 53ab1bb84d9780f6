/- The contracts of the library that the claim uses, laid over this translation by the kit (its plain mode), cut down to what is used. -/
import Derived.Test.YtnjgoldinaffgaaGreatDoorProg
import Derived.Shelf.Strings.SlTrimAscii
import Derived.Shelf.Strings.SplitCore
import Derived.Shelf.Strconv.Itoa3
import Derived.Shelf.Small.Strs
import Derived.Shelf.LaysM
import Derived.Shelf.Strings.Search3
import Derived.Shelf.Strings.LastIndex
import Derived.Shelf.Strings.Split
import Derived.Shelf.SlicesE.Clone
namespace Go.Proofs
open _root_.Go.Proofs.Tryz
set_option linter.unusedSimpArgs false
set_option linter.unusedVariables false
open Go.Shelf
def zDf:Go.Shelf.Ren:=⟨fun|160=>67|232=>104|231=>103|227=>105|234=>107|233=>106|236=>109|235=>108|228=>151|271=>154|151=>153|197=>152|120=>188|152=>187|260=>186|137=>130|119=>213|224=>176|225=>175|217=>174|266=>201|n=>n,fun|9=>9|4=>4|3=>3|5=>5|117=>166|116=>165|0=>0|124=>169|21=>21|105=>198|46=>125|119=>247|139=>250|138=>249|n=>n,fun|3=>1|4=>2|n=>n⟩
theorem zFP:Go.Proofs.Lays.n160 Tryz.prog zDf:={
 mixed:=by kernel_rfl
 f119:=func213.trans (congrArg some (by kernel_rfl))
 f120:=func188.trans (congrArg some (by kernel_rfl))
 f137:=func130.trans (congrArg some (by kernel_rfl))
 f151:=func153.trans (congrArg some (by kernel_rfl))
 f152:=func187.trans (congrArg some (by kernel_rfl))
 f160:=func67.trans (congrArg some (by kernel_rfl))
 f197:=func152.trans (congrArg some (by kernel_rfl))
 f217:=func174.trans (congrArg some (by kernel_rfl))
 f224:=func176.trans (congrArg some (by kernel_rfl))
 f225:=func175.trans (congrArg some (by kernel_rfl))
 f227:=func105.trans (congrArg some (by kernel_rfl))
 f228:=func151.trans (congrArg some (by kernel_rfl))
 f231:=func103.trans (congrArg some (by kernel_rfl))
 f232:=func104.trans (congrArg some (by kernel_rfl))
 f233:=func106.trans (congrArg some (by kernel_rfl))
 f234:=func107.trans (congrArg some (by kernel_rfl))
 f235:=func108.trans (congrArg some (by kernel_rfl))
 f236:=func109.trans (congrArg some (by kernel_rfl))
 f260:=func186.trans (congrArg some (by kernel_rfl))
 f266:=func201.trans (congrArg some (by kernel_rfl))
 f271:=func154.trans (congrArg some (by kernel_rfl))
 t0:=underlying0
 a0:=isAgg0
 z0:=sizeOf0
 v0:=zeroValue0
 t3:=underlying3
 a3:=isAgg3
 z3:=sizeOf3
 v3:=zeroValue3
 t4:=underlying4
 a4:=isAgg4
 z4:=sizeOf4
 v4:=zeroValue4
 t5:=underlying5
 a5:=isAgg5
 z5:=sizeOf5
 v5:=zeroValue5
 t9:=underlying9
 a9:=isAgg9
 z9:=sizeOf9
 v9:=zeroValue9
 t21:=underlying21
 a21:=isAgg21
 z21:=sizeOf21
 v21:=zeroValue21
 t46:=underlying125
 a46:=isAgg125
 z46:=sizeOf125
 v46:=zeroValue125
 t105:=underlying198
 a105:=isAgg198
 z105:=sizeOf198
 v105:=zeroValue198
 t116:=underlying165
 a116:=isAgg165
 z116:=sizeOf165
 t117:=underlying166
 a117:=isAgg166
 z117:=sizeOf166
 v117:=zeroValue166
 t119:=underlying247
 a119:=isAgg247
 z119:=sizeOf247
 t124:=underlying169
 a124:=isAgg169
 z124:=sizeOf169
 v124:=zeroValue169
 t138:=underlying249
 a138:=isAgg249
 z138:=sizeOf249
 v138:=zeroValue249
 t139:=underlying250
 a139:=isAgg250
 z139:=sizeOf250
 v139:=zeroValue250
 g3:=by kernel_rfl
 g4:=by kernel_rfl }
def zDj:Go.Shelf.Ren:=⟨fun|106=>27|213=>62|265=>100|n=>n,fun|9=>9|3=>3|n=>n,fun|n=>n⟩
theorem zLB:Go.Proofs.Lays.n106 Tryz.prog zDj:={
 mixed:=by kernel_rfl
 f106:=func27.trans (congrArg some (by kernel_rfl))
 f213:=func62.trans (congrArg some (by kernel_rfl))
 f265:=func100.trans (congrArg some (by kernel_rfl))
 t3:=underlying3
 a3:=isAgg3
 z3:=sizeOf3
 v3:=zeroValue3
 t9:=underlying9
 a9:=isAgg9
 z9:=sizeOf9
 v9:=zeroValue9 }
open Go.RowKit in
theorem Tryz.strings_Compare (a b:ByteArray) (w:World):
  Calls Tryz.prog 27 #[.string a,.string b] w fun e w'=>e=.returned (.int .i64 (Lib.compareBytes a.data.toList b.data.toList))∧w'=w:=Any.strings_Compare zLB a b w
def zDi:Go.Shelf.Ren:=⟨fun|137=>130|217=>174|266=>201|n=>n,fun|9=>9|5=>5|3=>3|n=>n,fun|n=>n⟩
theorem zLA:Go.Proofs.Lays.n137 Tryz.prog zDi:={
 mixed:=by kernel_rfl
 f137:=func130.trans (congrArg some (by kernel_rfl))
 f217:=func174.trans (congrArg some (by kernel_rfl))
 f266:=func201.trans (congrArg some (by kernel_rfl))
 t3:=underlying3
 a3:=isAgg3
 z3:=sizeOf3
 v3:=zeroValue3
 t5:=underlying5
 a5:=isAgg5
 z5:=sizeOf5
 v5:=zeroValue5
 t9:=underlying9
 a9:=isAgg9
 z9:=sizeOf9
 v9:=zeroValue9 }
open Go.RowKit in
theorem Tryz.strings_IndexByte (s:ByteArray) (c:Int) (w:World):
  Calls Tryz.prog 130 #[.string s,.int .u8 c] w fun e w'=>e=.returned (.int .i64 (Lib.indexByte s.data.toList c.toNat.toUInt8))∧w'=w:=Any.strings_IndexByte zLA s c w
def zBU:Go.Shelf.Ren:=⟨fun|171=>88|243=>134|246=>181|283=>208|284=>209|285=>210|286=>211|129=>99|317=>226|318=>227|319=>228|320=>229|337=>233|338=>234|n=>n,fun|3=>3|9=>9|2=>2|4=>4|171=>242|0=>0|53=>162|37=>236|5=>5|173=>244|212=>265|51=>160|20=>20|213=>266|46=>125|232=>272|233=>273|n=>n,fun|17=>5|18=>6|19=>7|n=>n⟩
theorem zIV:Go.Proofs.LaysM.n171 Tryz.prog zBU:={
 mixed:=by kernel_rfl
 f129:=func99.trans (congrArg some (by kernel_rfl))
 f171:=func88.trans (congrArg some (by kernel_rfl))
 f243:=func134.trans (congrArg some (by kernel_rfl))
 f246:=func181.trans (congrArg some (by kernel_rfl))
 f283:=func208.trans (congrArg some (by kernel_rfl))
 f284:=func209.trans (congrArg some (by kernel_rfl))
 f285:=func210.trans (congrArg some (by kernel_rfl))
 f286:=func211.trans (congrArg some (by kernel_rfl))
 f317:=func226.trans (congrArg some (by kernel_rfl))
 f318:=func227.trans (congrArg some (by kernel_rfl))
 f319:=func228.trans (congrArg some (by kernel_rfl))
 f320:=func229.trans (congrArg some (by kernel_rfl))
 f337:=func233.trans (congrArg some (by kernel_rfl))
 f338:=func234.trans (congrArg some (by kernel_rfl))
 t0:=underlying0
 a0:=isAgg0
 z0:=sizeOf0
 v0:=zeroValue0
 t2:=underlying2
 a2:=isAgg2
 z2:=sizeOf2
 v2:=zeroValue2
 t3:=underlying3
 a3:=isAgg3
 z3:=sizeOf3
 v3:=zeroValue3
 t4:=underlying4
 a4:=isAgg4
 z4:=sizeOf4
 v4:=zeroValue4
 t5:=underlying5
 a5:=isAgg5
 z5:=sizeOf5
 v5:=zeroValue5
 t9:=underlying9
 a9:=isAgg9
 z9:=sizeOf9
 v9:=zeroValue9
 t20:=underlying20
 a20:=isAgg20
 z20:=sizeOf20
 v20:=zeroValue20
 t37:=underlying236
 a37:=isAgg236
 z37:=sizeOf236
 v37:=zeroValue236
 t46:=underlying125
 a46:=isAgg125
 z46:=sizeOf125
 v46:=zeroValue125
 t51:=underlying160
 a51:=isAgg160
 z51:=sizeOf160
 v51:=zeroValue160
 t53:=underlying162
 a53:=isAgg162
 z53:=sizeOf162
 v53:=zeroValue162
 t171:=underlying242
 a171:=isAgg242
 z171:=sizeOf242
 v171:=zeroValue242
 t173:=underlying244
 a173:=isAgg244
 z173:=sizeOf244
 v173:=zeroValue244
 t212:=underlying265
 a212:=isAgg265
 z212:=sizeOf265
 v212:=zeroValue265
 t213:=underlying266
 a213:=isAgg266
 z213:=sizeOf266
 t232:=underlying272
 a232:=isAgg272
 z232:=sizeOf272
 v232:=zeroValue272
 t233:=underlying273
 a233:=isAgg273
 z233:=sizeOf273
 v233:=zeroValue273
 g17:=by kernel_rfl
 g18:=by kernel_rfl
 g19:=by kernel_rfl
 i0:=by kernel_rfl
 i2:=by kernel_rfl
 i3:=by kernel_rfl
 i4:=by kernel_rfl
 i5:=by kernel_rfl
 i9:=by kernel_rfl
 i20:=by kernel_rfl
 i37:=by kernel_rfl
 i46:=by kernel_rfl
 i51:=by kernel_rfl
 i53:=by kernel_rfl
 i171:=by kernel_rfl
 i173:=by kernel_rfl
 i212:=by kernel_rfl
 i232:=by kernel_rfl
 i233:=by kernel_rfl
 m17:=by kernel_rfl
 m18:=by kernel_rfl
 m19:=by kernel_rfl }
def zDg:Go.Shelf.Ren:=⟨fun|149=>83|222=>127|n=>n,fun|9=>9|5=>5|3=>3|4=>4|n=>n,fun|n=>n⟩
theorem zLy:Go.Proofs.Lays.n149 Tryz.prog zDg:={
 mixed:=by kernel_rfl
 f149:=func83.trans (congrArg some (by kernel_rfl))
 f222:=func127.trans (congrArg some (by kernel_rfl))
 t3:=underlying3
 a3:=isAgg3
 z3:=sizeOf3
 v3:=zeroValue3
 t4:=underlying4
 a4:=isAgg4
 z4:=sizeOf4
 v4:=zeroValue4
 t5:=underlying5
 a5:=isAgg5
 z5:=sizeOf5
 v5:=zeroValue5
 t9:=underlying9
 a9:=isAgg9
 z9:=sizeOf9
 v9:=zeroValue9 }
open Go.RowKit Go.Lib in
theorem Tryz.strings_LastIndexByte (s:ByteArray) (c:Int) (hs:s.size < 4611686018427387904) (w:World):
  Calls Tryz.prog 83 #[.string s,.int .u8 c] w fun e w'=>e=.returned (.int .i64 (Lib.lastIndexByte s c))∧w'=w:=Any.strings_LastIndexByte zLy s c hs w
def zDh:Go.Shelf.Ren:=⟨fun|146=>79|221=>123|268=>170|138=>171|143=>82|195=>199|197=>152|218=>200|219=>126|260=>186|217=>174|225=>175|224=>176|267=>177|266=>201|314=>202|n=>n,fun|9=>9|31=>52|3=>3|4=>4|0=>0|105=>198|21=>21|5=>5|46=>125|119=>247|139=>250|138=>249|146=>233|51=>160|n=>n,fun|1=>0|3=>1|4=>2|n=>n⟩
theorem zLz:Go.Proofs.Lays.n146 Tryz.prog zDh:={
 mixed:=by kernel_rfl
 f138:=func171.trans (congrArg some (by kernel_rfl))
 f143:=func82.trans (congrArg some (by kernel_rfl))
 f146:=func79.trans (congrArg some (by kernel_rfl))
 f195:=func199.trans (congrArg some (by kernel_rfl))
 f197:=func152.trans (congrArg some (by kernel_rfl))
 f217:=func174.trans (congrArg some (by kernel_rfl))
 f218:=func200.trans (congrArg some (by kernel_rfl))
 f219:=func126.trans (congrArg some (by kernel_rfl))
 f221:=func123.trans (congrArg some (by kernel_rfl))
 f224:=func176.trans (congrArg some (by kernel_rfl))
 f225:=func175.trans (congrArg some (by kernel_rfl))
 f260:=func186.trans (congrArg some (by kernel_rfl))
 f266:=func201.trans (congrArg some (by kernel_rfl))
 f267:=func177.trans (congrArg some (by kernel_rfl))
 f268:=func170.trans (congrArg some (by kernel_rfl))
 f314:=func202.trans (congrArg some (by kernel_rfl))
 t0:=underlying0
 a0:=isAgg0
 z0:=sizeOf0
 v0:=zeroValue0
 t3:=underlying3
 a3:=isAgg3
 z3:=sizeOf3
 v3:=zeroValue3
 t4:=underlying4
 a4:=isAgg4
 z4:=sizeOf4
 v4:=zeroValue4
 t5:=underlying5
 a5:=isAgg5
 z5:=sizeOf5
 v5:=zeroValue5
 t9:=underlying9
 a9:=isAgg9
 z9:=sizeOf9
 v9:=zeroValue9
 t21:=underlying21
 a21:=isAgg21
 z21:=sizeOf21
 v21:=zeroValue21
 t31:=underlying52
 a31:=isAgg52
 z31:=sizeOf52
 v31:=zeroValue52
 t46:=underlying125
 a46:=isAgg125
 z46:=sizeOf125
 v46:=zeroValue125
 t51:=underlying160
 a51:=isAgg160
 z51:=sizeOf160
 v51:=zeroValue160
 t105:=underlying198
 a105:=isAgg198
 z105:=sizeOf198
 v105:=zeroValue198
 t119:=underlying247
 a119:=isAgg247
 z119:=sizeOf247
 t138:=underlying249
 a138:=isAgg249
 z138:=sizeOf249
 v138:=zeroValue249
 t139:=underlying250
 a139:=isAgg250
 z139:=sizeOf250
 v139:=zeroValue250
 t146:=underlying233
 a146:=isAgg233
 z146:=sizeOf233
 v146:=zeroValue233
 g1:=by kernel_rfl
 g3:=by kernel_rfl
 g4:=by kernel_rfl }
open Go.RowKit Go.Lib in
theorem Tryz.strings_Split (s sep:ByteArray) (m:Int) (w:World) (hs:s.size < 4294967281) (hm:w.cell? ⟨0,0,none⟩=some (.int .i64 m)) (h1:1≤sep.size):
  Calls Tryz.prog 79 #[.string s,.string sep] w fun e w'=>
   e=.returned (.slice (some ⟨w.heap.size,0,none⟩) (Lib.countB s sep+1) (Lib.countB s sep+1))∧w'=w.alloc (.cells ((Lib.splitB sep 0 (Lib.countB s sep) s).map Value.string).toArray 9):=Any.strings_Split zLz (by kernel_rfl) s sep m w hs hm h1
def rG:Go.Shelf.Ren:=⟨fun|41=>59|n=>n,fun|22=>49|23=>71|4=>4|n=>n,fun|n=>n⟩
theorem oJ:Go.Proofs.SlLaysE0.n41 Tryz.prog rG:={
 mixed:=by kernel_rfl
 f41:=⟨f59.name,by decide,func59.trans (congrArg some (by kernel_rfl))⟩
 t4:=underlying4
 a4:=isAgg4
 z4:=sizeOf4
 v4:=zeroValue4
 t22:=underlying49
 a22:=isAgg49
 z22:=sizeOf49
 v22:=zeroValue49 }
open Go.RowKit Go.Lib in
theorem Tryz.slices_Clone (i0:TypeInfo) (z:Value) (size bytes:Nat) (hi:Tryz.prog.info? 71=some i0) (hz0:i0.zero=some z) (hz1:i0.size=size) (hz2:i0.bytes=bytes) (hzs:z.cells.size=size) (hsz:0 < size) (z23:∀ w,(Go.sizeOf 71).run Tryz.prog w=.ok size w) (b off n c:Nat) (news:List Value) (w:World) (hl:news.length=n * size) (hn:n≤maxLen) (hbig:n * bytes≤140737488355328) (hc:∀ j u,news[j]?=some u→w.cell? ⟨b,off+j,none⟩=some u) (h1:∀ u ∈ news,u.oneCell'=true):
  Calls Tryz.prog 59 #[.slice (some ⟨b,off,none⟩) n c] w fun e w'=>∃ v',e=.returned v'∧w'.ownsRow w.heap.size 71 size v' n news∧v' ≠ .slice none 0 0∧Below w.heap.size w w':=AnyE.slices_Clone oJ i0 z size bytes hi hz0 hz1 hz2 hzs hsz z23 b off n c news w hl hn hbig hc h1
open Go.RowKit Go.Lib in
theorem Tryz.slices_Clone_nil (n c:Nat) (w:World):
  Calls Tryz.prog 59 #[.slice none n c] w fun e w'=>e=.returned (.slice none 0 0)∧w'=w:=AnyE.slices_Clone_nil oJ n c w
end Go.Proofs
