/- The contracts of the library that the claim uses, laid over this translation by the kit (its plain mode), cut down to what is used. -/
import Derived.Test.YtalejlbiccdfjaaDoorProg
import Derived.Shelf.Strings.SlTrimAscii
namespace Go.Proofs
set_option linter.unusedSimpArgs false
set_option linter.unusedVariables false
open Go.Shelf
def Tryd.lays160_ren:Go.Shelf.Ren:=⟨fun|160=>41|232=>54|231=>53|227=>55|234=>57|233=>56|236=>59|235=>58|228=>65|271=>68|151=>67|197=>66|120=>71|152=>70|260=>69|137=>72|119=>73|224=>74|225=>75|217=>76|266=>77|n=>n,fun|9=>9|4=>4|3=>3|5=>5|117=>88|116=>87|0=>0|124=>91|21=>21|105=>96|46=>101|119=>100|139=>104|138=>103|n=>n,fun|3=>0|4=>1|n=>n⟩
theorem Tryd.lays160:Go.Proofs.Lays.n160 Tryd.prog Tryd.lays160_ren:={
 mixed:=by kernel_rfl
 f119:=Tryd.func73.trans (congrArg some (by kernel_rfl))
 f120:=Tryd.func71.trans (congrArg some (by kernel_rfl))
 f137:=Tryd.func72.trans (congrArg some (by kernel_rfl))
 f151:=Tryd.func67.trans (congrArg some (by kernel_rfl))
 f152:=Tryd.func70.trans (congrArg some (by kernel_rfl))
 f160:=Tryd.func41.trans (congrArg some (by kernel_rfl))
 f197:=Tryd.func66.trans (congrArg some (by kernel_rfl))
 f217:=Tryd.func76.trans (congrArg some (by kernel_rfl))
 f224:=Tryd.func74.trans (congrArg some (by kernel_rfl))
 f225:=Tryd.func75.trans (congrArg some (by kernel_rfl))
 f227:=Tryd.func55.trans (congrArg some (by kernel_rfl))
 f228:=Tryd.func65.trans (congrArg some (by kernel_rfl))
 f231:=Tryd.func53.trans (congrArg some (by kernel_rfl))
 f232:=Tryd.func54.trans (congrArg some (by kernel_rfl))
 f233:=Tryd.func56.trans (congrArg some (by kernel_rfl))
 f234:=Tryd.func57.trans (congrArg some (by kernel_rfl))
 f235:=Tryd.func58.trans (congrArg some (by kernel_rfl))
 f236:=Tryd.func59.trans (congrArg some (by kernel_rfl))
 f260:=Tryd.func69.trans (congrArg some (by kernel_rfl))
 f266:=Tryd.func77.trans (congrArg some (by kernel_rfl))
 f271:=Tryd.func68.trans (congrArg some (by kernel_rfl))
 t0:=Tryd.underlying0
 a0:=Tryd.isAgg0
 z0:=Tryd.sizeOf0
 v0:=Tryd.zeroValue0
 t3:=Tryd.underlying3
 a3:=Tryd.isAgg3
 z3:=Tryd.sizeOf3
 v3:=Tryd.zeroValue3
 t4:=Tryd.underlying4
 a4:=Tryd.isAgg4
 z4:=Tryd.sizeOf4
 v4:=Tryd.zeroValue4
 t5:=Tryd.underlying5
 a5:=Tryd.isAgg5
 z5:=Tryd.sizeOf5
 v5:=Tryd.zeroValue5
 t9:=Tryd.underlying9
 a9:=Tryd.isAgg9
 z9:=Tryd.sizeOf9
 v9:=Tryd.zeroValue9
 t21:=Tryd.underlying21
 a21:=Tryd.isAgg21
 z21:=Tryd.sizeOf21
 v21:=Tryd.zeroValue21
 t46:=Tryd.underlying101
 a46:=Tryd.isAgg101
 z46:=Tryd.sizeOf101
 v46:=Tryd.zeroValue101
 t105:=Tryd.underlying96
 a105:=Tryd.isAgg96
 z105:=Tryd.sizeOf96
 v105:=Tryd.zeroValue96
 t116:=Tryd.underlying87
 a116:=Tryd.isAgg87
 z116:=Tryd.sizeOf87
 t117:=Tryd.underlying88
 a117:=Tryd.isAgg88
 z117:=Tryd.sizeOf88
 v117:=Tryd.zeroValue88
 t119:=Tryd.underlying100
 a119:=Tryd.isAgg100
 z119:=Tryd.sizeOf100
 t124:=Tryd.underlying91
 a124:=Tryd.isAgg91
 z124:=Tryd.sizeOf91
 v124:=Tryd.zeroValue91
 t138:=Tryd.underlying103
 a138:=Tryd.isAgg103
 z138:=Tryd.sizeOf103
 v138:=Tryd.zeroValue103
 t139:=Tryd.underlying104
 a139:=Tryd.isAgg104
 z139:=Tryd.sizeOf104
 v139:=Tryd.zeroValue104
 g3:=by kernel_rfl
 g4:=by kernel_rfl }
end Go.Proofs
