/- The contracts of the library that the claim uses, laid over this translation by the kit (its plain mode), cut down to what is used. -/
import Derived.Test.YtindehjiaknokaaGreatDoorProg
import Derived.Shelf.Strings.SlTrimAscii
import Derived.Shelf.Strings.SplitCore
import Derived.Shelf.Strconv.Itoa3
import Derived.Shelf.Strings.OnBuilder
import Derived.Shelf.Strconv.Atoi
import Derived.Shelf.LaysM
namespace Go.Proofs
set_option linter.unusedSimpArgs false
set_option linter.unusedVariables false
open Go.Shelf
def Tryz.lays172_ren:Go.Shelf.Ren:=⟨fun|172=>89|244=>112|245=>113|247=>136|279=>137|280=>138|281=>139|282=>140|287=>164|316=>165|171=>45|205=>166|321=>182|322=>183|243=>74|246=>92|283=>115|284=>116|285=>117|286=>118|129=>143|317=>142|318=>144|319=>145|320=>146|337=>168|338=>169|n=>n,fun|9=>9|3=>3|75=>71|76=>72|4=>4|5=>5|167=>157|37=>66|0=>0|85=>158|2=>2|168=>160|53=>134|175=>191|46=>131|210=>194|127=>103|145=>212|143=>210|21=>21|171=>133|173=>137|212=>164|51=>90|20=>20|213=>165|232=>213|233=>214|80=>56|n=>n,fun|15=>2|16=>3|17=>1|18=>4|19=>5|n=>n⟩
theorem Tryz.lays172:Go.Proofs.Lays.n172 Tryz.prog Tryz.lays172_ren:={
 mixed:=by kernel_rfl
 f129:=Tryz.func143.trans (congrArg some (by kernel_rfl))
 f171:=Tryz.func45.trans (congrArg some (by kernel_rfl))
 f172:=Tryz.func89.trans (congrArg some (by kernel_rfl))
 f205:=Tryz.func166.trans (congrArg some (by kernel_rfl))
 f243:=Tryz.func74.trans (congrArg some (by kernel_rfl))
 f244:=Tryz.func112.trans (congrArg some (by kernel_rfl))
 f245:=Tryz.func113.trans (congrArg some (by kernel_rfl))
 f246:=Tryz.func92.trans (congrArg some (by kernel_rfl))
 f247:=Tryz.func136.trans (congrArg some (by kernel_rfl))
 f279:=Tryz.func137.trans (congrArg some (by kernel_rfl))
 f280:=Tryz.func138.trans (congrArg some (by kernel_rfl))
 f281:=Tryz.func139.trans (congrArg some (by kernel_rfl))
 f282:=Tryz.func140.trans (congrArg some (by kernel_rfl))
 f283:=Tryz.func115.trans (congrArg some (by kernel_rfl))
 f284:=Tryz.func116.trans (congrArg some (by kernel_rfl))
 f285:=Tryz.func117.trans (congrArg some (by kernel_rfl))
 f286:=Tryz.func118.trans (congrArg some (by kernel_rfl))
 f287:=Tryz.func164.trans (congrArg some (by kernel_rfl))
 f316:=Tryz.func165.trans (congrArg some (by kernel_rfl))
 f317:=Tryz.func142.trans (congrArg some (by kernel_rfl))
 f318:=Tryz.func144.trans (congrArg some (by kernel_rfl))
 f319:=Tryz.func145.trans (congrArg some (by kernel_rfl))
 f320:=Tryz.func146.trans (congrArg some (by kernel_rfl))
 f321:=Tryz.func182.trans (congrArg some (by kernel_rfl))
 f322:=Tryz.func183.trans (congrArg some (by kernel_rfl))
 f337:=Tryz.func168.trans (congrArg some (by kernel_rfl))
 f338:=Tryz.func169.trans (congrArg some (by kernel_rfl))
 t0:=Tryz.underlying0
 a0:=Tryz.isAgg0
 z0:=Tryz.sizeOf0
 v0:=Tryz.zeroValue0
 t2:=Tryz.underlying2
 a2:=Tryz.isAgg2
 z2:=Tryz.sizeOf2
 v2:=Tryz.zeroValue2
 t3:=Tryz.underlying3
 a3:=Tryz.isAgg3
 z3:=Tryz.sizeOf3
 v3:=Tryz.zeroValue3
 t4:=Tryz.underlying4
 a4:=Tryz.isAgg4
 z4:=Tryz.sizeOf4
 v4:=Tryz.zeroValue4
 t5:=Tryz.underlying5
 a5:=Tryz.isAgg5
 z5:=Tryz.sizeOf5
 v5:=Tryz.zeroValue5
 t9:=Tryz.underlying9
 a9:=Tryz.isAgg9
 z9:=Tryz.sizeOf9
 v9:=Tryz.zeroValue9
 t20:=Tryz.underlying20
 a20:=Tryz.isAgg20
 z20:=Tryz.sizeOf20
 v20:=Tryz.zeroValue20
 t21:=Tryz.underlying21
 a21:=Tryz.isAgg21
 z21:=Tryz.sizeOf21
 v21:=Tryz.zeroValue21
 t37:=Tryz.underlying66
 a37:=Tryz.isAgg66
 z37:=Tryz.sizeOf66
 v37:=Tryz.zeroValue66
 t46:=Tryz.underlying131
 a46:=Tryz.isAgg131
 z46:=Tryz.sizeOf131
 v46:=Tryz.zeroValue131
 t51:=Tryz.underlying90
 a51:=Tryz.isAgg90
 z51:=Tryz.sizeOf90
 v51:=Tryz.zeroValue90
 t53:=Tryz.underlying134
 a53:=Tryz.isAgg134
 z53:=Tryz.sizeOf134
 v53:=Tryz.zeroValue134
 t75:=Tryz.underlying71
 a75:=Tryz.isAgg71
 z75:=Tryz.sizeOf71
 v75:=Tryz.zeroValue71
 t76:=Tryz.underlying72
 a76:=Tryz.isAgg72
 z76:=Tryz.sizeOf72
 v76:=Tryz.zeroValue72
 t85:=Tryz.underlying158
 a85:=Tryz.isAgg158
 z85:=Tryz.sizeOf158
 v85:=Tryz.zeroValue158
 t127:=Tryz.underlying103
 a127:=Tryz.isAgg103
 z127:=Tryz.sizeOf103
 v127:=Tryz.zeroValue103
 t143:=Tryz.underlying210
 a143:=Tryz.isAgg210
 z143:=Tryz.sizeOf210
 v143:=Tryz.zeroValue210
 t145:=Tryz.underlying212
 a145:=Tryz.isAgg212
 z145:=Tryz.sizeOf212
 v145:=Tryz.zeroValue212
 t167:=Tryz.underlying157
 a167:=Tryz.isAgg157
 z167:=Tryz.sizeOf157
 v167:=Tryz.zeroValue157
 t168:=Tryz.underlying160
 a168:=Tryz.isAgg160
 z168:=Tryz.sizeOf160
 v168:=Tryz.zeroValue160
 t171:=Tryz.underlying133
 a171:=Tryz.isAgg133
 z171:=Tryz.sizeOf133
 v171:=Tryz.zeroValue133
 t173:=Tryz.underlying137
 a173:=Tryz.isAgg137
 z173:=Tryz.sizeOf137
 v173:=Tryz.zeroValue137
 t175:=Tryz.underlying191
 a175:=Tryz.isAgg191
 z175:=Tryz.sizeOf191
 v175:=Tryz.zeroValue191
 t210:=Tryz.underlying194
 a210:=Tryz.isAgg194
 z210:=Tryz.sizeOf194
 v210:=Tryz.zeroValue194
 t212:=Tryz.underlying164
 a212:=Tryz.isAgg164
 z212:=Tryz.sizeOf164
 v212:=Tryz.zeroValue164
 t213:=Tryz.underlying165
 a213:=Tryz.isAgg165
 z213:=Tryz.sizeOf165
 t232:=Tryz.underlying213
 a232:=Tryz.isAgg213
 z232:=Tryz.sizeOf213
 v232:=Tryz.zeroValue213
 t233:=Tryz.underlying214
 a233:=Tryz.isAgg214
 z233:=Tryz.sizeOf214
 v233:=Tryz.zeroValue214
 g15:=by kernel_rfl
 g16:=by kernel_rfl
 g17:=by kernel_rfl
 g18:=by kernel_rfl
 g19:=by kernel_rfl }
open Go.RowKit in
theorem Tryz.strconv_Atoi (s:ByteArray) (n:Int) (hl:s.size≤18) (h:Lib.atoi s.data.toList=some n) (w:World):
  Calls Tryz.prog 89 #[.string s] w fun e w'=>e=.returned (.tuple #[.int .i64 n,.nilIface])∧∃ t,w'=Lib.bytesWorld w 5 t:=Any.strconv_Atoi Tryz.lays172 s n hl h w
end Go.Proofs
