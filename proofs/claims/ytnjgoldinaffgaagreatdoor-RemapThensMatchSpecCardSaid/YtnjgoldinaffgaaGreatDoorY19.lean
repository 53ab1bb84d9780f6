/- The contracts of the library that the claim uses, laid over this translation by the kit (its plain mode), cut down to what is used. -/
import Derived.Test.YtnjgoldinaffgaaGreatDoorProg
import Derived.Shelf.Strings.SlTrimAscii
import Derived.Shelf.Strings.SplitCore
import Derived.Shelf.Strconv.Itoa3
import Derived.Shelf.Strconv.Atoi
import Derived.Shelf.LaysM
namespace Go.Proofs
open _root_.Go.Proofs.Tryz
set_option linter.unusedSimpArgs false
set_option linter.unusedVariables false
open Go.Shelf
def zDe:Go.Shelf.Ren:=⟨fun|172=>133|244=>179|245=>180|247=>203|279=>204|280=>205|281=>206|282=>207|287=>223|316=>224|171=>88|205=>225|321=>231|322=>232|243=>134|246=>181|283=>208|284=>209|285=>210|286=>211|129=>99|317=>226|318=>227|319=>228|320=>229|337=>233|338=>234|n=>n,fun|9=>9|3=>3|75=>183|76=>184|4=>4|5=>5|167=>235|37=>236|0=>0|85=>237|2=>2|168=>239|53=>162|175=>258|46=>125|210=>262|127=>268|145=>271|143=>269|21=>21|171=>242|173=>244|212=>265|51=>160|20=>20|213=>266|232=>272|233=>273|80=>274|n=>n,fun|15=>3|16=>4|17=>5|18=>6|19=>7|n=>n⟩
theorem zLx:Go.Proofs.Lays.n172 Tryz.prog zDe:={
 mixed:=by kernel_rfl
 f129:=func99.trans (congrArg some (by kernel_rfl))
 f171:=func88.trans (congrArg some (by kernel_rfl))
 f172:=func133.trans (congrArg some (by kernel_rfl))
 f205:=func225.trans (congrArg some (by kernel_rfl))
 f243:=func134.trans (congrArg some (by kernel_rfl))
 f244:=func179.trans (congrArg some (by kernel_rfl))
 f245:=func180.trans (congrArg some (by kernel_rfl))
 f246:=func181.trans (congrArg some (by kernel_rfl))
 f247:=func203.trans (congrArg some (by kernel_rfl))
 f279:=func204.trans (congrArg some (by kernel_rfl))
 f280:=func205.trans (congrArg some (by kernel_rfl))
 f281:=func206.trans (congrArg some (by kernel_rfl))
 f282:=func207.trans (congrArg some (by kernel_rfl))
 f283:=func208.trans (congrArg some (by kernel_rfl))
 f284:=func209.trans (congrArg some (by kernel_rfl))
 f285:=func210.trans (congrArg some (by kernel_rfl))
 f286:=func211.trans (congrArg some (by kernel_rfl))
 f287:=func223.trans (congrArg some (by kernel_rfl))
 f316:=func224.trans (congrArg some (by kernel_rfl))
 f317:=func226.trans (congrArg some (by kernel_rfl))
 f318:=func227.trans (congrArg some (by kernel_rfl))
 f319:=func228.trans (congrArg some (by kernel_rfl))
 f320:=func229.trans (congrArg some (by kernel_rfl))
 f321:=func231.trans (congrArg some (by kernel_rfl))
 f322:=func232.trans (congrArg some (by kernel_rfl))
 f337:=func233.trans (congrArg some (by kernel_rfl))
 f338:=func234.trans (congrArg some (by kernel_rfl))
 t0:=underlying0
 a0:=isAgg0
 z0:=sizeOf0
 v0:=zeroValue0
 t2:=underlying2
 a2:=isAgg2
 z2:=sizeOf2
 v2:=zeroValue2
 t3:=underlying3
 a3:=isAgg3
 z3:=sizeOf3
 v3:=zeroValue3
 t4:=underlying4
 a4:=isAgg4
 z4:=sizeOf4
 v4:=zeroValue4
 t5:=underlying5
 a5:=isAgg5
 z5:=sizeOf5
 v5:=zeroValue5
 t9:=underlying9
 a9:=isAgg9
 z9:=sizeOf9
 v9:=zeroValue9
 t20:=underlying20
 a20:=isAgg20
 z20:=sizeOf20
 v20:=zeroValue20
 t21:=underlying21
 a21:=isAgg21
 z21:=sizeOf21
 v21:=zeroValue21
 t37:=underlying236
 a37:=isAgg236
 z37:=sizeOf236
 v37:=zeroValue236
 t46:=underlying125
 a46:=isAgg125
 z46:=sizeOf125
 v46:=zeroValue125
 t51:=underlying160
 a51:=isAgg160
 z51:=sizeOf160
 v51:=zeroValue160
 t53:=underlying162
 a53:=isAgg162
 z53:=sizeOf162
 v53:=zeroValue162
 t75:=underlying183
 a75:=isAgg183
 z75:=sizeOf183
 v75:=zeroValue183
 t76:=underlying184
 a76:=isAgg184
 z76:=sizeOf184
 v76:=zeroValue184
 t85:=underlying237
 a85:=isAgg237
 z85:=sizeOf237
 v85:=zeroValue237
 t127:=underlying268
 a127:=isAgg268
 z127:=sizeOf268
 v127:=zeroValue268
 t143:=underlying269
 a143:=isAgg269
 z143:=sizeOf269
 v143:=zeroValue269
 t145:=underlying271
 a145:=isAgg271
 z145:=sizeOf271
 v145:=zeroValue271
 t167:=underlying235
 a167:=isAgg235
 z167:=sizeOf235
 v167:=zeroValue235
 t168:=underlying239
 a168:=isAgg239
 z168:=sizeOf239
 v168:=zeroValue239
 t171:=underlying242
 a171:=isAgg242
 z171:=sizeOf242
 v171:=zeroValue242
 t173:=underlying244
 a173:=isAgg244
 z173:=sizeOf244
 v173:=zeroValue244
 t175:=underlying258
 a175:=isAgg258
 z175:=sizeOf258
 v175:=zeroValue258
 t210:=underlying262
 a210:=isAgg262
 z210:=sizeOf262
 v210:=zeroValue262
 t212:=underlying265
 a212:=isAgg265
 z212:=sizeOf265
 v212:=zeroValue265
 t213:=underlying266
 a213:=isAgg266
 z213:=sizeOf266
 t232:=underlying272
 a232:=isAgg272
 z232:=sizeOf272
 v232:=zeroValue272
 t233:=underlying273
 a233:=isAgg273
 z233:=sizeOf273
 v233:=zeroValue273
 g15:=by kernel_rfl
 g16:=by kernel_rfl
 g17:=by kernel_rfl
 g18:=by kernel_rfl
 g19:=by kernel_rfl }
open Go.RowKit in
theorem Tryz.strconv_Atoi (s:ByteArray) (n:Int) (hl:s.size≤18) (h:Lib.atoi s.data.toList=some n) (w:World):
  Calls Tryz.prog 133 #[.string s] w fun e w'=>e=.returned (.tuple #[.int .i64 n,.nilIface])∧∃ t,w'=Lib.bytesWorld w 5 t:=Any.strconv_Atoi zLx s n hl h w
end Go.Proofs
