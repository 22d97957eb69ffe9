/- lemmas -/
import Derived.Test.YtanjeafjkgllhaaGreatDoorAmD
import Derived.Test.YtanjeafjkgllhaaGreatDoorAmE
import Derived.Test.YtanjeafjkgllhaaGreatDoorAmC
import Derived.Ground.NamesProg
import Derived.Ground.Names2Prog
import Derived.KernelRfl
import Derived.Test.YtanjeafjkgllhaaGreatDoorMdMA
import Derived.Shelf.Small.Strs
import Derived.Shelf.Strconv.Itoa3
import Derived.Shelf.Strconv.AtoiAll
import Derived.Shelf.Strings.Prefix
import Derived.Shelf.Strings.Split
import Derived.Shelf.Strings.OnBuilder
import Derived.Shelf.Strings.Search3
import Derived.RangeFuncLeaves
import Derived.WalkKit
import Derived.OwnWalkIn
import Derived.TacticsInMore
import Derived.LoopNIn
import Derived.LoopIn
import Derived.Test.YtanjeafjkgllhaaGreatDoorMdKD
import Derived.Test.YtanjeafjkgllhaaGreatDoorMdPA
import Derived.RangeFuncBox
import Derived.Lib.SliceRun
import Derived.Test.YtanjeafjkgllhaaGreatDoorProg
import Derived.RangeFuncFrom
import Derived.RangeFuncRecord
import Derived.Laws.CopyRow
import Derived.Laws.IdiomCopy
import Derived.Test.YtanjeafjkgllhaaGreatDoorMdMB
import Derived.Test.YtanjeafjkgllhaaGreatDoorAmA
import Derived.Test.YtanjeafjkgllhaaGreatDoorMdKC
import Derived.Test.YtanjeafjkgllhaaGreatDoorMdKB
import Derived.Test.YtanjeafjkgllhaaGreatDoorMdKA
set_option linter.all false
noncomputable section
namespace Go.Proofs
open Go.Shelf
def Tryz.laysSort_ren:Go.Shelf.Ren:=⟨fun|189=>137|125=>219|257=>218|128=>277|129=>278|294=>268|295=>269|296=>270|297=>271|298=>272|299=>273|216=>274|300=>275|301=>276|328=>307|329=>308|330=>309|331=>310|332=>311|215=>213|343=>323|n=>n,fun|28=>41|3=>3|46=>226|0=>0|51=>282|53=>288|4=>4|183=>318|182=>317|131=>185|5=>5|9=>9|218=>355|222=>359|228=>369|229=>370|n=>n,fun|n=>n⟩
def Tryz.laysSort:Go.Proofs.Lays.n189 Tryz.prog Tryz.laysSort_ren:={
 mixed:=by kernel_rfl
 f125:=Tryz.func219.trans (congrArg some (by kernel_rfl))
 f128:=Tryz.func277.trans (congrArg some (by kernel_rfl))
 f129:=Tryz.func278.trans (congrArg some (by kernel_rfl))
 f189:=Tryz.func137.trans (congrArg some (by kernel_rfl))
 f215:=Tryz.func213.trans (congrArg some (by kernel_rfl))
 f216:=Tryz.func274.trans (congrArg some (by kernel_rfl))
 f257:=Tryz.func218.trans (congrArg some (by kernel_rfl))
 f294:=Tryz.func268.trans (congrArg some (by kernel_rfl))
 f295:=Tryz.func269.trans (congrArg some (by kernel_rfl))
 f296:=Tryz.func270.trans (congrArg some (by kernel_rfl))
 f297:=Tryz.func271.trans (congrArg some (by kernel_rfl))
 f298:=Tryz.func272.trans (congrArg some (by kernel_rfl))
 f299:=Tryz.func273.trans (congrArg some (by kernel_rfl))
 f300:=Tryz.func275.trans (congrArg some (by kernel_rfl))
 f301:=Tryz.func276.trans (congrArg some (by kernel_rfl))
 f328:=Tryz.func307.trans (congrArg some (by kernel_rfl))
 f329:=Tryz.func308.trans (congrArg some (by kernel_rfl))
 f330:=Tryz.func309.trans (congrArg some (by kernel_rfl))
 f331:=Tryz.func310.trans (congrArg some (by kernel_rfl))
 f332:=Tryz.func311.trans (congrArg some (by kernel_rfl))
 f343:=Tryz.func323.trans (congrArg some (by kernel_rfl))
 t0:=Tryz.underlying0
 a0:=Tryz.isAgg0
 z0:=Tryz.sizeOf0
 v0:=Tryz.zeroValue0
 t3:=Tryz.underlying3
 a3:=Tryz.isAgg3
 z3:=Tryz.sizeOf3
 v3:=Tryz.zeroValue3
 t4:=Tryz.underlying4
 a4:=Tryz.isAgg4
 z4:=Tryz.sizeOf4
 v4:=Tryz.zeroValue4
 t5:=Tryz.underlying5
 a5:=Tryz.isAgg5
 z5:=Tryz.sizeOf5
 v5:=Tryz.zeroValue5
 t9:=Tryz.underlying9
 a9:=Tryz.isAgg9
 z9:=Tryz.sizeOf9
 v9:=Tryz.zeroValue9
 t28:=Tryz.underlying41
 a28:=Tryz.isAgg41
 z28:=Tryz.sizeOf41
 v28:=Tryz.zeroValue41
 t46:=Tryz.underlying226
 a46:=Tryz.isAgg226
 z46:=Tryz.sizeOf226
 v46:=Tryz.zeroValue226
 t51:=Tryz.underlying282
 a51:=Tryz.isAgg282
 z51:=Tryz.sizeOf282
 v51:=Tryz.zeroValue282
 t53:=Tryz.underlying288
 a53:=Tryz.isAgg288
 z53:=Tryz.sizeOf288
 v53:=Tryz.zeroValue288
 t131:=Tryz.underlying185
 a131:=Tryz.isAgg185
 z131:=Tryz.sizeOf185
 v131:=Tryz.zeroValue185
 t182:=Tryz.underlying317
 a182:=Tryz.isAgg317
 z182:=Tryz.sizeOf317
 v182:=Tryz.zeroValue317
 t183:=Tryz.underlying318
 a183:=Tryz.isAgg318
 z183:=Tryz.sizeOf318
 v183:=Tryz.zeroValue318
 t218:=Tryz.underlying355
 a218:=Tryz.isAgg355
 z218:=Tryz.sizeOf355
 v218:=Tryz.zeroValue355
 t222:=Tryz.underlying359
 a222:=Tryz.isAgg359
 z222:=Tryz.sizeOf359
 v222:=Tryz.zeroValue359
 t228:=Tryz.underlying369
 a228:=Tryz.isAgg369
 z228:=Tryz.sizeOf369
 v228:=Tryz.zeroValue369
 t229:=Tryz.underlying370
 a229:=Tryz.isAgg370
 z229:=Tryz.sizeOf370
 v229:=Tryz.zeroValue370}
def Tryz.laysCompact_ren:Go.Shelf.Ren:=⟨fun|20=>260|n=>n,fun|22=>41|3=>3|4=>4|0=>0|n=>n,fun|n=>n⟩
def Tryz.laysCompact:Go.Proofs.Lays2.n20 Tryz.prog Tryz.laysCompact_ren:={
 mixed:=by kernel_rfl
 f20:=Tryz.func260.trans (congrArg some (by kernel_rfl))
 t0:=Tryz.underlying0
 a0:=Tryz.isAgg0
 z0:=Tryz.sizeOf0
 v0:=Tryz.zeroValue0
 t3:=Tryz.underlying3
 a3:=Tryz.isAgg3
 z3:=Tryz.sizeOf3
 v3:=Tryz.zeroValue3
 t4:=Tryz.underlying4
 a4:=Tryz.isAgg4
 z4:=Tryz.sizeOf4
 v4:=Tryz.zeroValue4
 t22:=Tryz.underlying41
 a22:=Tryz.isAgg41
 z22:=Tryz.sizeOf41
 v22:=Tryz.zeroValue41
 i3:=by kernel_rfl}
def Tryz.laysIndexByte_ren:Go.Shelf.Ren:=⟨fun|137=>83|217=>155|266=>228|n=>n,fun|9=>9|5=>5|3=>3|n=>n,fun|n=>n⟩
def Tryz.laysIndexByte:Go.Proofs.Lays.n137 Tryz.prog Tryz.laysIndexByte_ren:={
 mixed:=by kernel_rfl
 f137:=Tryz.func83.trans (congrArg some (by kernel_rfl))
 f217:=Tryz.func155.trans (congrArg some (by kernel_rfl))
 f266:=Tryz.func228.trans (congrArg some (by kernel_rfl))
 t3:=Tryz.underlying3
 a3:=Tryz.isAgg3
 z3:=Tryz.sizeOf3
 v3:=Tryz.zeroValue3
 t5:=Tryz.underlying5
 a5:=Tryz.isAgg5
 z5:=Tryz.sizeOf5
 v5:=Tryz.zeroValue5
 t9:=Tryz.underlying9
 a9:=Tryz.isAgg9
 z9:=Tryz.sizeOf9
 v9:=Tryz.zeroValue9}
def Tryz.laysItoa_ren:Go.Shelf.Ren:=⟨fun|171=>37|243=>90|246=>180|283=>238|284=>239|285=>240|286=>241|129=>278|317=>290|318=>291|319=>292|320=>293|337=>316|338=>317|n=>n,fun|3=>3|9=>9|2=>2|4=>4|171=>296|0=>0|53=>288|37=>189|5=>5|173=>299|212=>339|51=>282|20=>20|213=>340|46=>226|232=>378|233=>379|n=>n,fun|17=>3|18=>6|19=>7|n=>n⟩
def Tryz.laysItoa:Go.Proofs.LaysM.n171 Tryz.prog Tryz.laysItoa_ren:={
 mixed:=by kernel_rfl
 f129:=Tryz.func278.trans (congrArg some (by kernel_rfl))
 f171:=Tryz.func37.trans (congrArg some (by kernel_rfl))
 f243:=Tryz.func90.trans (congrArg some (by kernel_rfl))
 f246:=Tryz.func180.trans (congrArg some (by kernel_rfl))
 f283:=Tryz.func238.trans (congrArg some (by kernel_rfl))
 f284:=Tryz.func239.trans (congrArg some (by kernel_rfl))
 f285:=Tryz.func240.trans (congrArg some (by kernel_rfl))
 f286:=Tryz.func241.trans (congrArg some (by kernel_rfl))
 f317:=Tryz.func290.trans (congrArg some (by kernel_rfl))
 f318:=Tryz.func291.trans (congrArg some (by kernel_rfl))
 f319:=Tryz.func292.trans (congrArg some (by kernel_rfl))
 f320:=Tryz.func293.trans (congrArg some (by kernel_rfl))
 f337:=Tryz.func316.trans (congrArg some (by kernel_rfl))
 f338:=Tryz.func317.trans (congrArg some (by kernel_rfl))
 t0:=Tryz.underlying0
 a0:=Tryz.isAgg0
 z0:=Tryz.sizeOf0
 v0:=Tryz.zeroValue0
 t2:=Tryz.underlying2
 a2:=Tryz.isAgg2
 z2:=Tryz.sizeOf2
 v2:=Tryz.zeroValue2
 t3:=Tryz.underlying3
 a3:=Tryz.isAgg3
 z3:=Tryz.sizeOf3
 v3:=Tryz.zeroValue3
 t4:=Tryz.underlying4
 a4:=Tryz.isAgg4
 z4:=Tryz.sizeOf4
 v4:=Tryz.zeroValue4
 t5:=Tryz.underlying5
 a5:=Tryz.isAgg5
 z5:=Tryz.sizeOf5
 v5:=Tryz.zeroValue5
 t9:=Tryz.underlying9
 a9:=Tryz.isAgg9
 z9:=Tryz.sizeOf9
 v9:=Tryz.zeroValue9
 t20:=Tryz.underlying20
 a20:=Tryz.isAgg20
 z20:=Tryz.sizeOf20
 v20:=Tryz.zeroValue20
 t37:=Tryz.underlying189
 a37:=Tryz.isAgg189
 z37:=Tryz.sizeOf189
 v37:=Tryz.zeroValue189
 t46:=Tryz.underlying226
 a46:=Tryz.isAgg226
 z46:=Tryz.sizeOf226
 v46:=Tryz.zeroValue226
 t51:=Tryz.underlying282
 a51:=Tryz.isAgg282
 z51:=Tryz.sizeOf282
 v51:=Tryz.zeroValue282
 t53:=Tryz.underlying288
 a53:=Tryz.isAgg288
 z53:=Tryz.sizeOf288
 v53:=Tryz.zeroValue288
 t171:=Tryz.underlying296
 a171:=Tryz.isAgg296
 z171:=Tryz.sizeOf296
 v171:=Tryz.zeroValue296
 t173:=Tryz.underlying299
 a173:=Tryz.isAgg299
 z173:=Tryz.sizeOf299
 v173:=Tryz.zeroValue299
 t212:=Tryz.underlying339
 a212:=Tryz.isAgg339
 z212:=Tryz.sizeOf339
 v212:=Tryz.zeroValue339
 t213:=Tryz.underlying340
 a213:=Tryz.isAgg340
 z213:=Tryz.sizeOf340
 t232:=Tryz.underlying378
 a232:=Tryz.isAgg378
 z232:=Tryz.sizeOf378
 v232:=Tryz.zeroValue378
 t233:=Tryz.underlying379
 a233:=Tryz.isAgg379
 z233:=Tryz.sizeOf379
 v233:=Tryz.zeroValue379
 g17:=by kernel_rfl
 g18:=by kernel_rfl
 g19:=by kernel_rfl
 i0:=by kernel_rfl
 i2:=by kernel_rfl
 i3:=by kernel_rfl
 i4:=by kernel_rfl
 i5:=by kernel_rfl
 i9:=by kernel_rfl
 i20:=by kernel_rfl
 i37:=by kernel_rfl
 i46:=by kernel_rfl
 i51:=by kernel_rfl
 i53:=by kernel_rfl
 i171:=by kernel_rfl
 i173:=by kernel_rfl
 i212:=by kernel_rfl
 i232:=by kernel_rfl
 i233:=by kernel_rfl
 m17:=by kernel_rfl
 m18:=by kernel_rfl
 m19:=by kernel_rfl}
def Tryz.laysAtoi_ren:Go.Shelf.Ren:=⟨fun|172=>35|244=>86|245=>87|247=>172|279=>173|280=>174|281=>175|282=>176|287=>233|316=>234|171=>37|205=>235|321=>286|322=>287|243=>90|246=>180|283=>238|284=>239|285=>240|286=>241|129=>278|317=>290|318=>291|319=>292|320=>293|337=>316|338=>317|n=>n,fun|9=>9|3=>3|75=>91|76=>92|4=>4|5=>5|167=>232|37=>189|0=>0|85=>233|2=>2|168=>235|53=>288|175=>289|46=>226|210=>293|127=>295|145=>334|143=>332|21=>21|171=>296|173=>299|212=>339|51=>282|20=>20|213=>340|232=>378|233=>379|80=>242|n=>n,fun|15=>1|16=>2|17=>3|18=>6|19=>7|n=>n⟩
def Tryz.laysAtoi:Go.Proofs.LaysC.n172 Tryz.prog Tryz.laysAtoi_ren:={
 mixed:=by kernel_rfl
 f129:=Tryz.func278.trans (congrArg some (by kernel_rfl))
 f171:=Tryz.func37.trans (congrArg some (by kernel_rfl))
 f172:=Tryz.func35.trans (congrArg some (by kernel_rfl))
 f205:=Tryz.func235.trans (congrArg some (by kernel_rfl))
 f243:=Tryz.func90.trans (congrArg some (by kernel_rfl))
 f244:=Tryz.func86.trans (congrArg some (by kernel_rfl))
 f245:=Tryz.func87.trans (congrArg some (by kernel_rfl))
 f246:=Tryz.func180.trans (congrArg some (by kernel_rfl))
 f247:=Tryz.func172.trans (congrArg some (by kernel_rfl))
 f279:=Tryz.func173.trans (congrArg some (by kernel_rfl))
 f280:=Tryz.func174.trans (congrArg some (by kernel_rfl))
 f281:=Tryz.func175.trans (congrArg some (by kernel_rfl))
 f282:=Tryz.func176.trans (congrArg some (by kernel_rfl))
 f283:=Tryz.func238.trans (congrArg some (by kernel_rfl))
 f284:=Tryz.func239.trans (congrArg some (by kernel_rfl))
 f285:=Tryz.func240.trans (congrArg some (by kernel_rfl))
 f286:=Tryz.func241.trans (congrArg some (by kernel_rfl))
 f287:=Tryz.func233.trans (congrArg some (by kernel_rfl))
 f316:=Tryz.func234.trans (congrArg some (by kernel_rfl))
 f317:=Tryz.func290.trans (congrArg some (by kernel_rfl))
 f318:=Tryz.func291.trans (congrArg some (by kernel_rfl))
 f319:=Tryz.func292.trans (congrArg some (by kernel_rfl))
 f320:=Tryz.func293.trans (congrArg some (by kernel_rfl))
 f321:=Tryz.func286.trans (congrArg some (by kernel_rfl))
 f322:=Tryz.func287.trans (congrArg some (by kernel_rfl))
 f337:=Tryz.func316.trans (congrArg some (by kernel_rfl))
 f338:=Tryz.func317.trans (congrArg some (by kernel_rfl))
 t0:=Tryz.underlying0
 a0:=Tryz.isAgg0
 z0:=Tryz.sizeOf0
 v0:=Tryz.zeroValue0
 t2:=Tryz.underlying2
 a2:=Tryz.isAgg2
 z2:=Tryz.sizeOf2
 v2:=Tryz.zeroValue2
 t3:=Tryz.underlying3
 a3:=Tryz.isAgg3
 z3:=Tryz.sizeOf3
 v3:=Tryz.zeroValue3
 t4:=Tryz.underlying4
 a4:=Tryz.isAgg4
 z4:=Tryz.sizeOf4
 v4:=Tryz.zeroValue4
 t5:=Tryz.underlying5
 a5:=Tryz.isAgg5
 z5:=Tryz.sizeOf5
 v5:=Tryz.zeroValue5
 t9:=Tryz.underlying9
 a9:=Tryz.isAgg9
 z9:=Tryz.sizeOf9
 v9:=Tryz.zeroValue9
 t20:=Tryz.underlying20
 a20:=Tryz.isAgg20
 z20:=Tryz.sizeOf20
 v20:=Tryz.zeroValue20
 t21:=Tryz.underlying21
 a21:=Tryz.isAgg21
 z21:=Tryz.sizeOf21
 v21:=Tryz.zeroValue21
 t37:=Tryz.underlying189
 a37:=Tryz.isAgg189
 z37:=Tryz.sizeOf189
 v37:=Tryz.zeroValue189
 t46:=Tryz.underlying226
 a46:=Tryz.isAgg226
 z46:=Tryz.sizeOf226
 v46:=Tryz.zeroValue226
 t51:=Tryz.underlying282
 a51:=Tryz.isAgg282
 z51:=Tryz.sizeOf282
 v51:=Tryz.zeroValue282
 t53:=Tryz.underlying288
 a53:=Tryz.isAgg288
 z53:=Tryz.sizeOf288
 v53:=Tryz.zeroValue288
 t75:=Tryz.underlying91
 a75:=Tryz.isAgg91
 z75:=Tryz.sizeOf91
 v75:=Tryz.zeroValue91
 t76:=Tryz.underlying92
 a76:=Tryz.isAgg92
 z76:=Tryz.sizeOf92
 v76:=Tryz.zeroValue92
 t85:=Tryz.underlying233
 a85:=Tryz.isAgg233
 z85:=Tryz.sizeOf233
 v85:=Tryz.zeroValue233
 t127:=Tryz.underlying295
 a127:=Tryz.isAgg295
 z127:=Tryz.sizeOf295
 v127:=Tryz.zeroValue295
 t143:=Tryz.underlying332
 a143:=Tryz.isAgg332
 z143:=Tryz.sizeOf332
 v143:=Tryz.zeroValue332
 t145:=Tryz.underlying334
 a145:=Tryz.isAgg334
 z145:=Tryz.sizeOf334
 v145:=Tryz.zeroValue334
 t167:=Tryz.underlying232
 a167:=Tryz.isAgg232
 z167:=Tryz.sizeOf232
 v167:=Tryz.zeroValue232
 t168:=Tryz.underlying235
 a168:=Tryz.isAgg235
 z168:=Tryz.sizeOf235
 v168:=Tryz.zeroValue235
 t171:=Tryz.underlying296
 a171:=Tryz.isAgg296
 z171:=Tryz.sizeOf296
 v171:=Tryz.zeroValue296
 t173:=Tryz.underlying299
 a173:=Tryz.isAgg299
 z173:=Tryz.sizeOf299
 v173:=Tryz.zeroValue299
 t175:=Tryz.underlying289
 a175:=Tryz.isAgg289
 z175:=Tryz.sizeOf289
 v175:=Tryz.zeroValue289
 t210:=Tryz.underlying293
 a210:=Tryz.isAgg293
 z210:=Tryz.sizeOf293
 v210:=Tryz.zeroValue293
 t212:=Tryz.underlying339
 a212:=Tryz.isAgg339
 z212:=Tryz.sizeOf339
 v212:=Tryz.zeroValue339
 t213:=Tryz.underlying340
 a213:=Tryz.isAgg340
 z213:=Tryz.sizeOf340
 t232:=Tryz.underlying378
 a232:=Tryz.isAgg378
 z232:=Tryz.sizeOf378
 v232:=Tryz.zeroValue378
 t233:=Tryz.underlying379
 a233:=Tryz.isAgg379
 z233:=Tryz.sizeOf379
 v233:=Tryz.zeroValue379
 g15:=by kernel_rfl
 g16:=by kernel_rfl
 g17:=by kernel_rfl
 g18:=by kernel_rfl
 g19:=by kernel_rfl
 t80:=Tryz.underlying242
 a80:=Tryz.isAgg242
 z80:=Tryz.sizeOf242
 v80:=Tryz.zeroValue242
 i0:=by kernel_rfl
 i2:=by kernel_rfl
 i3:=by kernel_rfl
 i4:=by kernel_rfl
 i5:=by kernel_rfl
 i9:=by kernel_rfl
 i20:=by kernel_rfl
 i21:=by kernel_rfl
 i37:=by kernel_rfl
 i46:=by kernel_rfl
 i51:=by kernel_rfl
 i53:=by kernel_rfl
 i75:=by kernel_rfl
 i76:=by kernel_rfl
 i80:=by kernel_rfl
 i85:=by kernel_rfl
 i127:=by kernel_rfl
 i143:=by kernel_rfl
 i145:=by kernel_rfl
 i167:=by kernel_rfl
 i168:=by kernel_rfl
 i171:=by kernel_rfl
 i173:=by kernel_rfl
 i175:=by kernel_rfl
 i210:=by kernel_rfl
 i212:=by kernel_rfl
 i232:=by kernel_rfl
 i233:=by kernel_rfl
 m15:=by kernel_rfl
 m16:=by kernel_rfl
 m17:=by kernel_rfl
 m18:=by kernel_rfl
 m19:=by kernel_rfl
 c0:=by kernel_rfl
 c2:=by kernel_rfl
 c3:=by kernel_rfl
 c4:=by kernel_rfl
 c5:=by kernel_rfl
 c9:=by kernel_rfl
 c20:=by kernel_rfl
 c21:=by kernel_rfl
 c37:=by kernel_rfl
 c46:=by kernel_rfl
 c51:=by kernel_rfl
 c53:=by kernel_rfl
 c75:=by kernel_rfl
 c76:=by kernel_rfl
 c80:=by kernel_rfl
 c85:=by kernel_rfl
 c127:=by kernel_rfl
 c143:=by kernel_rfl
 c145:=by kernel_rfl
 c167:=by kernel_rfl
 c168:=by kernel_rfl
 c171:=by kernel_rfl
 c173:=by kernel_rfl
 c175:=by kernel_rfl
 c210:=by kernel_rfl
 c212:=by kernel_rfl
 c213:=by kernel_rfl
 c232:=by kernel_rfl
 c233:=by kernel_rfl}
def Tryz.laysTrimSuffix_ren:Go.Shelf.Ren:=⟨fun|102=>34|209=>85|207=>171|n=>n,fun|9=>9|4=>4|3=>3|n=>n,fun|n=>n⟩
def Tryz.laysTrimSuffix:Go.Proofs.Lays.n102 Tryz.prog Tryz.laysTrimSuffix_ren:={
 mixed:=by kernel_rfl
 f102:=Tryz.func34.trans (congrArg some (by kernel_rfl))
 f207:=Tryz.func171.trans (congrArg some (by kernel_rfl))
 f209:=Tryz.func85.trans (congrArg some (by kernel_rfl))
 t3:=Tryz.underlying3
 a3:=Tryz.isAgg3
 z3:=Tryz.sizeOf3
 v3:=Tryz.zeroValue3
 t4:=Tryz.underlying4
 a4:=Tryz.isAgg4
 z4:=Tryz.sizeOf4
 v4:=Tryz.zeroValue4
 t9:=Tryz.underlying9
 a9:=Tryz.isAgg9
 z9:=Tryz.sizeOf9
 v9:=Tryz.zeroValue9}
def Tryz.laysSplit_ren:Go.Shelf.Ren:=⟨fun|146=>33|221=>84|268=>169|138=>170|143=>30|195=>230|197=>231|218=>232|219=>80|260=>285|217=>155|225=>156|224=>157|267=>158|266=>228|314=>229|n=>n,fun|9=>9|31=>87|3=>3|4=>4|0=>0|105=>286|21=>21|5=>5|46=>226|119=>363|139=>366|138=>365|146=>283|51=>282|n=>n,fun|1=>0|3=>4|4=>5|n=>n⟩
def Tryz.laysSplit:Go.Proofs.Lays.n146 Tryz.prog Tryz.laysSplit_ren:={
 mixed:=by kernel_rfl
 f138:=Tryz.func170.trans (congrArg some (by kernel_rfl))
 f143:=Tryz.func30.trans (congrArg some (by kernel_rfl))
 f146:=Tryz.func33.trans (congrArg some (by kernel_rfl))
 f195:=Tryz.func230.trans (congrArg some (by kernel_rfl))
 f197:=Tryz.func231.trans (congrArg some (by kernel_rfl))
 f217:=Tryz.func155.trans (congrArg some (by kernel_rfl))
 f218:=Tryz.func232.trans (congrArg some (by kernel_rfl))
 f219:=Tryz.func80.trans (congrArg some (by kernel_rfl))
 f221:=Tryz.func84.trans (congrArg some (by kernel_rfl))
 f224:=Tryz.func157.trans (congrArg some (by kernel_rfl))
 f225:=Tryz.func156.trans (congrArg some (by kernel_rfl))
 f260:=Tryz.func285.trans (congrArg some (by kernel_rfl))
 f266:=Tryz.func228.trans (congrArg some (by kernel_rfl))
 f267:=Tryz.func158.trans (congrArg some (by kernel_rfl))
 f268:=Tryz.func169.trans (congrArg some (by kernel_rfl))
 f314:=Tryz.func229.trans (congrArg some (by kernel_rfl))
 t0:=Tryz.underlying0
 a0:=Tryz.isAgg0
 z0:=Tryz.sizeOf0
 v0:=Tryz.zeroValue0
 t3:=Tryz.underlying3
 a3:=Tryz.isAgg3
 z3:=Tryz.sizeOf3
 v3:=Tryz.zeroValue3
 t4:=Tryz.underlying4
 a4:=Tryz.isAgg4
 z4:=Tryz.sizeOf4
 v4:=Tryz.zeroValue4
 t5:=Tryz.underlying5
 a5:=Tryz.isAgg5
 z5:=Tryz.sizeOf5
 v5:=Tryz.zeroValue5
 t9:=Tryz.underlying9
 a9:=Tryz.isAgg9
 z9:=Tryz.sizeOf9
 v9:=Tryz.zeroValue9
 t21:=Tryz.underlying21
 a21:=Tryz.isAgg21
 z21:=Tryz.sizeOf21
 v21:=Tryz.zeroValue21
 t31:=Tryz.underlying87
 a31:=Tryz.isAgg87
 z31:=Tryz.sizeOf87
 v31:=Tryz.zeroValue87
 t46:=Tryz.underlying226
 a46:=Tryz.isAgg226
 z46:=Tryz.sizeOf226
 v46:=Tryz.zeroValue226
 t51:=Tryz.underlying282
 a51:=Tryz.isAgg282
 z51:=Tryz.sizeOf282
 v51:=Tryz.zeroValue282
 t105:=Tryz.underlying286
 a105:=Tryz.isAgg286
 z105:=Tryz.sizeOf286
 v105:=Tryz.zeroValue286
 t119:=Tryz.underlying363
 a119:=Tryz.isAgg363
 z119:=Tryz.sizeOf363
 t138:=Tryz.underlying365
 a138:=Tryz.isAgg365
 z138:=Tryz.sizeOf365
 v138:=Tryz.zeroValue365
 t139:=Tryz.underlying366
 a139:=Tryz.isAgg366
 z139:=Tryz.sizeOf366
 v139:=Tryz.zeroValue366
 t146:=Tryz.underlying283
 a146:=Tryz.isAgg283
 z146:=Tryz.sizeOf283
 v146:=Tryz.zeroValue283
 g1:=by kernel_rfl
 g3:=by kernel_rfl
 g4:=by kernel_rfl}
def Tryz.laysJoin_ren:Go.Shelf.Ren:=⟨fun|156=>89|165=>177|166=>178|169=>179|240=>236|241=>237|276=>288|277=>289|n=>n,fun|31=>87|9=>9|3=>3|4=>4|0=>0|20=>20|72=>240|76=>92|70=>238|37=>189|75=>91|127=>295|164=>335|5=>5|80=>242|n=>n,fun|n=>n⟩
def Tryz.laysJoin:Go.Proofs.Lays.n156 Tryz.prog Tryz.laysJoin_ren:={
 mixed:=by kernel_rfl
 f156:=Tryz.func89.trans (congrArg some (by kernel_rfl))
 f165:=Tryz.func177.trans (congrArg some (by kernel_rfl))
 f166:=Tryz.func178.trans (congrArg some (by kernel_rfl))
 f169:=Tryz.func179.trans (congrArg some (by kernel_rfl))
 f240:=Tryz.func236.trans (congrArg some (by kernel_rfl))
 f241:=Tryz.func237.trans (congrArg some (by kernel_rfl))
 f276:=Tryz.func288.trans (congrArg some (by kernel_rfl))
 f277:=Tryz.func289.trans (congrArg some (by kernel_rfl))
 t0:=Tryz.underlying0
 a0:=Tryz.isAgg0
 z0:=Tryz.sizeOf0
 v0:=Tryz.zeroValue0
 t3:=Tryz.underlying3
 a3:=Tryz.isAgg3
 z3:=Tryz.sizeOf3
 v3:=Tryz.zeroValue3
 t4:=Tryz.underlying4
 a4:=Tryz.isAgg4
 z4:=Tryz.sizeOf4
 v4:=Tryz.zeroValue4
 t9:=Tryz.underlying9
 a9:=Tryz.isAgg9
 z9:=Tryz.sizeOf9
 v9:=Tryz.zeroValue9
 t20:=Tryz.underlying20
 a20:=Tryz.isAgg20
 z20:=Tryz.sizeOf20
 v20:=Tryz.zeroValue20
 t31:=Tryz.underlying87
 a31:=Tryz.isAgg87
 z31:=Tryz.sizeOf87
 v31:=Tryz.zeroValue87
 t37:=Tryz.underlying189
 a37:=Tryz.isAgg189
 z37:=Tryz.sizeOf189
 v37:=Tryz.zeroValue189
 t70:=Tryz.underlying238
 a70:=Tryz.isAgg238
 z70:=Tryz.sizeOf238
 v70:=Tryz.zeroValue238
 t72:=Tryz.underlying240
 a72:=Tryz.isAgg240
 z72:=Tryz.sizeOf240
 v72:=Tryz.zeroValue240
 t75:=Tryz.underlying91
 a75:=Tryz.isAgg91
 z75:=Tryz.sizeOf91
 v75:=Tryz.zeroValue91
 t76:=Tryz.underlying92
 a76:=Tryz.isAgg92
 z76:=Tryz.sizeOf92
 v76:=Tryz.zeroValue92
 t127:=Tryz.underlying295
 a127:=Tryz.isAgg295
 z127:=Tryz.sizeOf295
 v127:=Tryz.zeroValue295
 t164:=Tryz.underlying335
 a164:=Tryz.isAgg335
 z164:=Tryz.sizeOf335
 v164:=Tryz.zeroValue335}
def Tryz.laysIndex_ren:Go.Shelf.Ren:=⟨fun|143=>30|219=>80|217=>155|225=>156|224=>157|267=>158|266=>228|314=>229|n=>n,fun|9=>9|3=>3|4=>4|5=>5|46=>226|146=>283|51=>282|n=>n,fun|1=>0|n=>n⟩
def Tryz.laysIndex:Go.Proofs.Lays.n143 Tryz.prog Tryz.laysIndex_ren:={
 mixed:=by kernel_rfl
 f143:=Tryz.func30.trans (congrArg some (by kernel_rfl))
 f217:=Tryz.func155.trans (congrArg some (by kernel_rfl))
 f219:=Tryz.func80.trans (congrArg some (by kernel_rfl))
 f224:=Tryz.func157.trans (congrArg some (by kernel_rfl))
 f225:=Tryz.func156.trans (congrArg some (by kernel_rfl))
 f266:=Tryz.func228.trans (congrArg some (by kernel_rfl))
 f267:=Tryz.func158.trans (congrArg some (by kernel_rfl))
 f314:=Tryz.func229.trans (congrArg some (by kernel_rfl))
 t3:=Tryz.underlying3
 a3:=Tryz.isAgg3
 z3:=Tryz.sizeOf3
 v3:=Tryz.zeroValue3
 t4:=Tryz.underlying4
 a4:=Tryz.isAgg4
 z4:=Tryz.sizeOf4
 v4:=Tryz.zeroValue4
 t5:=Tryz.underlying5
 a5:=Tryz.isAgg5
 z5:=Tryz.sizeOf5
 v5:=Tryz.zeroValue5
 t9:=Tryz.underlying9
 a9:=Tryz.isAgg9
 z9:=Tryz.sizeOf9
 v9:=Tryz.zeroValue9
 t46:=Tryz.underlying226
 a46:=Tryz.isAgg226
 z46:=Tryz.sizeOf226
 v46:=Tryz.zeroValue226
 t51:=Tryz.underlying282
 a51:=Tryz.isAgg282
 z51:=Tryz.sizeOf282
 v51:=Tryz.zeroValue282
 t146:=Tryz.underlying283
 a146:=Tryz.isAgg283
 z146:=Tryz.sizeOf283
 v146:=Tryz.zeroValue283
 g1:=by kernel_rfl}
end Go.Proofs
end

noncomputable section
namespace Go.Proofs
end Go.Proofs
namespace Go.Proofs.ZzM
open Go Go.Am Go.RowKit
set_option maxRecDepth 100000
end Go.Proofs.ZzM
namespace Go.Proofs
def Tryz.builderX:Builder.Extra Tryz.prog Tryz.laysJoin_ren:=⟨⟨by kernel_rfl,by kernel_rfl⟩,Tryz.underlying5,Tryz.isAgg5,Tryz.sizeOf5,Tryz.zeroValue5,by kernel_rfl,by kernel_rfl,by kernel_rfl,by decide⟩
end Go.Proofs
namespace Go.Proofs.ZzM
open Go Go.Am Go.RowKit
abbrev gMax:Nat:=Tryz.laysSplit_ren.g 1
abbrev gSyn:Nat:=Tryz.laysAtoi_ren.g 15
abbrev gRng:Nat:=Tryz.laysAtoi_ren.g 16
def gMax_lt:gMax<Tryz.prog.globals.size:=of_decide_eq_true (by kernel_rfl)
def anE:gSyn<Tryz.prog.globals.size:=of_decide_eq_true (by kernel_rfl)
def anF:gRng<Tryz.prog.globals.size:=of_decide_eq_true (by kernel_rfl)
abbrev gPow : Nat := (Tryz.prog.globalNamed "internal/strconv.uint64pow10").getD 0
def anH : Tryz.prog.globalNamed "internal/strconv.uint64pow10" = some gPow := by kernel_rfl
def anG:gPow<Tryz.prog.globals.size:=of_decide_eq_true (by kernel_rfl)
def aiN (w:World) (g:Nat):Prop:=∃ev,w.cell? ⟨g,0,none⟩=some ev/\(ev=.nilIface\/∃a b,ev=.iface a b)
structure GlobW (w:World):Prop where
 pow : Lib.TabIs Tryz.prog w "internal/strconv.uint64pow10" .u64 Lib.pow10Tab
 max:∃m,w.cell? ⟨gMax,0,none⟩=some (.int .i64 m)
 syn:aiN w gSyn
 rng:aiN w gRng
 cel:∀b,b<Tryz.prog.globals.size->∃c e r,w.heap[b]?=some (.cells c e r)
def Qt {w w':World} {b:Nat} (h:w'.heap[b]?=w.heap[b]?) (i:Nat):w'.cell? ⟨b,i,none⟩=w.cell? ⟨b,i,none⟩:=by
 unfold World.cell?; simp only[h]
instance:Globs where
 n:=Tryz.prog.globals.size
 Φ:=GlobW
 keep:=fun w w' H a=>by
  obtain⟨c,⟨m,h2⟩,⟨j,h,g⟩,⟨i,f,e⟩,d⟩:=H;refine⟨?_,⟨m,(Qt (a _ gMax_lt) 0).trans h2⟩,⟨j,(Qt (a _ anE) 0).trans h,g⟩,⟨i,(Qt (a _ anF) 0).trans f,e⟩,fun b hb=>by rw[a b hb]; exact d b hb⟩;unfold Lib.TabIs World.var? at c ⊢;rw[anH] at c ⊢;simp only[Option.bind_some] at c ⊢;rw[a _ anG]; exact c
 cel:=fun w H=>H.cel
def ab6 (w:World) (t:TypeId) (x:ByteArray):Below w.heap.size w (Lib.bytesWorld w t x):=⟨rfl,rfl,rfl,by rw[Lib.bytesWorld_size]; omega,fun j a=>Lib.bytesWorld_at_old w t x j a⟩
def fItoa:Tryz.laysItoa_ren.f 171=37:=by kernel_rfl
def fTrim:Tryz.laysTrimSuffix_ren.f 102=34:=by kernel_rfl
def fIndex:Tryz.laysIndexByte_ren.f 137=83:=by kernel_rfl
def amB:Tryz.laysSplit_ren.f 146=33:=by kernel_rfl
def fJoin:Tryz.laysJoin_ren.f 156=89:=by kernel_rfl
def D8:Ķ Tryz.prog 83 kj:=jd ⟨_,_,Tryz.func83,rfl⟩ fun G x y g w vals k b a=>by
 obtain⟨j,vs,rfl,h,i,rfl,h2⟩:=a;rw[zR h,ajP h2];have c:some (Lib.indexByte x.1.data.toList x.2.toNat.toUInt8)=some y:=g;cases c;have:=Any.strings_IndexByte Tryz.laysIndexByte x.1 x.2 w;rw[fIndex] at this;exact this.mono fun e w' ⟨f,d⟩=>⟨_,f,int_arg _ _,by rw[d]; exact Below.refl _ _⟩
def oy:Ķ Tryz.prog 34 jG:=jd ⟨_,_,Tryz.func34,rfl⟩ fun G x y a w vals k c b=>by
 obtain⟨j,vs,rfl,h,i,rfl,h2⟩:=b;rw[zR h,zR h2];have a:agw x.1 x.2=some y:=a;unfold agw at a
 split at a<;>cases a
 rename_i f;have:=Any.strings_TrimSuffix Tryz.laysTrimSuffix x.1 x.2 w f;rw[fTrim] at this;exact this.mono fun e w' ⟨g,d⟩=>⟨_,g,U6 _,by rw[d]; exact Below.refl _ _⟩
def CY:Ķ Tryz.prog 37 sF:=jd ⟨_,_,Tryz.func37,rfl⟩ fun G x y a w vals m c f=>by
 obtain⟨j,rfl,i⟩:=f;rw[ajP i];have a:aiq x=some y:=a;unfold aiq at a
 split at a<;>cases a
 rename_i d;simp only[i64B,dt,decide_eq_true_eq] at d;have:=Any.strconv_Itoa Tryz.laysItoa x d.1 d.2 w c.pow;rw[fItoa] at this;exact this.mono fun e w' ⟨h, k, os, g⟩ => ⟨_, h, U6 _, by rw [g]; exact ⟨rfl, rfl, rfl, by simp [«Sort».grow, World.drewN], fun b hb => by simp [«Sort».grow, World.drewN, fK, hb]⟩⟩
def Qx:Ķ Tryz.prog 33 xC:=jd ⟨_,_,Tryz.func33,rfl⟩ fun G x y b w vals j d f=>by
 obtain⟨p,vs,rfl,k,o,rfl,h2⟩:=f;rw[zR k,zR h2];have b:Bp x.1 x.2=some y:=b;unfold Bp at b
 split at b<;>cases b
 rename_i c;simp only[dt,decide_eq_true_eq] at c;obtain⟨m,h⟩:=d.max;have:=Any.strings_Split Tryz.laysSplit (by kernel_rfl) x.1 x.2 m w c.1 h c.2;rw[amB] at this;have a:=Lib.splitB_all x.2 c.2 0 _ x.1 rfl;exact this.mono fun e w' ⟨i,g⟩=>⟨_,i,by rw[g,<-a]; exact aku (World.alloc_heap_new w _) (fun hb=>absurd (j _ hb) (Nat.lt_irrefl _)) rfl,by rw[g]; exact(Below.refl _ _).alloc (du _) _⟩
def LD:XOk Tryz.prog 33 .split:=show acd Tryz.prog 33 from⟨⟨_,_,Tryz.func33,rfl⟩,fun w s a y d f=>by
 unfold Bp at f
 split at f<;>cases f
 rename_i c;simp only[dt,decide_eq_true_eq] at c;obtain⟨m,h⟩:=d.max;have:=Any.strings_Split Tryz.laysSplit (by kernel_rfl) s a m w c.1 h c.2;rw[amB] at this;have b:=Lib.splitB_all a c.2 0 _ s rfl
 exact this.mono fun e w' ⟨i,g⟩=>⟨by rw[i,b],_,g⟩⟩
def SG:Ķ Tryz.prog 89 Bx:=jd ⟨_,_,Tryz.func89,rfl⟩ fun G x y c w vals r i h=>by
 obtain⟨q,vs,rfl,m,p,rfl,h2⟩:=h;obtain⟨xs,a⟩:=x;rw[zR h2];obtain⟨base,cap,rfl,j,k⟩:=al6 m;have c:aio xs a=some y:=c;unfold aio at c
 split at c<;>cases c
 rename_i f;simp only[dt,decide_eq_true_eq] at f;rcases k with rfl|⟨b,o,rfl,hb,hcells⟩
 ·have:=Any.strings_Join_none Tryz.laysJoin Tryz.builderX base cap a w;rw[fJoin] at this;exact this.mono fun e w' ⟨g,d⟩=>⟨_,g,U6 _,by rw[d]; exact Below.refl _ _⟩
 ·have:=Any.strings_Join Tryz.laysJoin Tryz.builderX b o cap xs a w hcells hb f.1 j f.2;rw[fJoin] at this;exact this.mono fun e w' ⟨g,d⟩=>⟨_,g,U6 _,d⟩
def anL:Tryz.laysAtoi_ren.f 172=35:=by kernel_rfl
def CZ:XOk Tryz.prog 35 .atoi:=show ake Tryz.prog 35 from⟨⟨_,_,Tryz.func35,rfl⟩,fun w s r a f=>by
 unfold ab7 at f
 split at f<;>cases f
 rename_i d;have d:=of_decide_eq_true d
 cases ha:Lib.atoiAll s.data.toList with
 |ok v =>
  have:=Any.strconv_Atoi_ok Tryz.laysAtoi s (by omega) v ha w;rw[anL] at this;refine this.mono fun e w' ⟨c,b⟩=>⟨.nilIface,c,rfl,fun _=>rfl,fun h=>(by cases h),?_⟩;rcases b with rfl|⟨t,rfl⟩
  ·exact Below.refl _ _
  ·exact ab6 _ _ _
 |range =>
  obtain⟨ev,g,h2⟩:=a.rng;have:=Any.strconv_Atoi_range Tryz.laysAtoi s d ha ev w g h2;rw[anL] at this;exact this.mono fun e w' ⟨N,c,_,_,b⟩=>⟨_,c,rfl,fun h=>(by cases h),fun _=>⟨_,_,rfl⟩,b⟩
 |_ =>
  obtain⟨ev,g,h2⟩:=a.syn;have:=Any.strconv_Atoi_syntax Tryz.laysAtoi s d ha ev w g h2;rw[anL] at this
  exact this.mono fun e w' ⟨N,c,_,_,b⟩=>⟨_,c,rfl,fun h=>(by cases h),fun _=>⟨_,_,rfl⟩,b⟩⟩
end Go.Proofs.ZzM
end

noncomputable section
namespace Go.Proofs.ZzM
open Go Go.Am Go.RowKit
set_option maxRecDepth 100000
noncomputable def lfC:Code->Code
 |.seq a _=>a
 |_=>.skip
noncomputable def lsC:Code->Code
 |.seq _ b=>b
 |_=>.skip
noncomputable def lbC:Code->Code
 |.block _ b=>b
 |_=>.skip
noncomputable def llC:Code->Code
 |.loop b=>b
 |_=>.skip
noncomputable def liB:Code:=Tryz.f82.body.getD .skip
noncomputable def li0:Code:=lfC (llC (lbC liB))
noncomputable def li1:Code:=lbC (lsC (llC (lbC liB)))
noncomputable def liR:Code:=lfC li1
noncomputable def liM:Code:=lfC (lsC li1)
noncomputable def liY:Code:=lfC (lsC (lsC li1))
noncomputable def liC:Code:=lsC (lsC (lsC li1))
def liB_eq:liB=.block 0 (.loop (.seq li0 (.block 1 (.seq liR (.seq liM (.seq liY liC)))))):=by kernel_rfl
def amy:Tryz.f82.body=some liB:=by kernel_rfl
noncomputable def liE (ρ:Type):Env ρ:={P:=Tryz.prog,eat:=fun _ _=>false,clone:=fun _=>false,sort:=fun _=>false,compact:=fun _=>false,inl:=fun _=>false,fz:=fun _=>false,pure:=Wx [(83,kj)],loops:=Ε [],ranges:=ő []}
abbrev liT:Type:=Exit×AV×AV×AV×rT Blk×Nat×Bool
def liK (e:Exit) (S:St):rF liT:=some (e,lk S.t 0,lk S.t 1,lk S.t 3,S.h,S.t.length,true)
def liS (s:ByteArray) (x:AV):St:={t:=[.yld,.box 0 0,.any,x]++List.replicate 21 .any,h:=[.cells [.str s]]}
def li_0 (s:ByteArray):goC (liE liT) (Ğ (liE liT) 10) 82 [] 1 0 li0 (liS s .any) liK=ifb (igt (HC s.size) 0) (some (.normal,.yld,.box 0 0,.any,[.cells [.str s]],25,true)) (some (.exit 0,.yld,.box 0 0,.any,[.cells [.str s]],25,true)):=by kernel_rfl
def li_R (s:ByteArray):goC (liE liT) (Ğ (liE liT) 10) 82 [] 1 1 liR (liS s .any) liK=some (.normal,.yld,.box 0 0,.str ⟨#[]⟩,[.cells [.str s]],25,true):=by kernel_rfl
noncomputable def alj (s:ByteArray) (r:Int):rF liT :=
 ifb (ige r 0) (match decide (0<=agq (r+1))&&decide (agq (r+1)<=s.size) with
  |true=>match decide (0<=agq (r+1))&&decide (agq (r+1)<=s.size) with
   |true=>some (.normal,.yld,.box 0 0,.str (s.extract 0 (agq (r+1)).toNat),[.cells [.str (s.extract (agq (r+1)).toNat s.size)]],25,true)
   |false=>none
  |false=>none) (some (.normal,.yld,.box 0 0,.str s,[.cells [.str ⟨#[]⟩]],25,true))
def li_M (s:ByteArray):goC (liE liT) (Ğ (liE liT) 10) 82 [] 1 1 liM (liS s .any) liK=alj s (Lib.indexByte s.data.toList ((10:Int).toNat.toUInt8)):=by kernel_rfl
def li_C (s:ByteArray) (b:Bool):goC (liE liT) (Ğ (liE liT) 10) 82 [] 1 1 liC {(liS s .any) with t:=upd (liS s .any).t 24 (.bool b)} liK=ifb b (some (.ret,.yld,.box 0 0,.any,[.cells [.str s]],25,true)) (some (.normal,.yld,.box 0 0,.any,[.cells [.str s]],25,true)):=by kernel_rfl
noncomputable def liP (k:Nat):String:=match liY with
 | .region _ ops _ => ((ops[k]?).map fun o => o.pos).getD ""
 | _ => ""
def liY_eq:liY=.region 6 #[{dst:=some 21,op:=.move (.tmp 0),type:=153,pos:=liP 0,after:=#[],guard:=none},{dst:=some 22,op:=.move (.tmp 3),type:=9,pos:=liP 1,after:=#[],guard:=none},{dst:=some 23,op:=.call ⟨.value (.tmp 21),#[.tmp 22],#[9]⟩,type:=4,pos:=liP 2,after:=#[⟨0,.data⟩,⟨1,.data⟩],guard:=none},{dst:=some 24,op:=.unOp .not 4 (.tmp 23),type:=4,pos:=liP 3,after:=#[⟨2,.data⟩],guard:=none}] false:=by kernel_rfl
attribute [local go_sem] Oper.semAt_some
set_option maxHeartbeats 1000000 in
def li_Y {l:Nat} {y:ByteArray} {a:Act} {W:World} {R:Ending->World->Prop} {Q:Exit->Act->World->Prop} (h0:a.tmps.getD 0 undef=.func (.yield l) #[] #[]) (h3:a.tmps.getD 3 undef=.string y) (hs:25<=a.tmps.size) (hY:YieldAt Fence.wide 0 Tryz.prog l #[.string y] W R)
 (hR:∀e W',R e W'->∃b,e=.returned (.bool b)/\∀a':Act,a'.defers=a.defers->a'.tmps.size=a.tmps.size->a'.tmps.getD 0 undef=a.tmps.getD 0 undef->a'.tmps.getD 1 undef=a.tmps.getD 1 undef->a'.tmps.getD 24 undef=.bool (!b)->Q .normal a' W'):liY.wpIn Fence.wide 0 Tryz.prog Q a W:=by
 obtain⟨fn,tmps,assign,body,hy,hR2⟩:=hY;obtain⟨T,D⟩:=a;dsimp only at *;rw[liY_eq];rw[Array.getD_eq_getD_getElem?] at h3
 gi_wp2
 rename_i K hK q1;refine⟨rfl,RoundIn.mono (show RoundIn Fence.wide 0 Tryz.prog _ _ _ _ _ _ _ from hR2) fun e W' he=>?_⟩;obtain⟨b,rfl,hb⟩:=hR e W' he;apply hK
 gi_wp2
 refine hb _ rfl (by simp) ?_ ?_ ?_
 ·simp[dT,eD]
 ·simp[dT,eD]
 ·simp[dT,eD,show 24<T.size by omega]
def hmixL:Tryz.prog.follows .mixedOrders=true:=by kernel_rfl
def am3 : (Tryz.prog.funcs.toList.all fun fn => !(fn.name == "runtime.NumGoroutine")) = true := by kernel_rfl
def plainL (f : Nat) (fn : Func) (h : Tryz.prog.funcs[f]? = some fn) : (fn.name == "runtime.NumGoroutine") = false := by
 have:=dM.1 am3 fn (dJ (i:=f) (by simpa using h));simpa using this
def li_lib [Ghost] (b:Γ (liE liT)):Bm (liE liT) where
 pure:=fun f p h=>by
  have a:Wx [(83,kj)] f=some p:=h;unfold Wx at a
  split at a
  ·rename_i hb;cases a;obtain rfl:=dF hb;exact D8
  ·cases a
 sort:=fun f h=>by cases h
 compact:=fun f h=>by cases h
 plain:=plainL
 clone:=fun g c=>by cases c
 joins:=Ē rfl
 yld:=b
 ext:=fun f X h=>by cases h
def ahm [Ghost] {path:rT Nat} {fid bid:Nat} {b:LI}:kT (liE liT) path fid bid b:=by
 cases b with
 |lp b=>exact fun m S K r ν a w e=>by cases e
 |rf g ps x y=>exact fun m S K r ν a w e=>by cases e
def amx [Ghost]:jM (liE liT) 2 (Ğ (liE liT) 10) :=
 mG (fun {_} b=>li_lib b) (fun L call a=>iZ hmixL L call a) (fun n d a _ _ path f fn c _ _ _ z _=>ahm) 10 (du _) (ŝ rfl)
def amw:∀(n i:Nat),lk (List.replicate n AV.any) i=.any
 |0,i=>by cases i<;>rfl
 |n+1,0=>rfl
 |n+1,i+1=>amw n i
def anA (s:ByteArray) (i:Nat):lk (liS s .any).t (i+2)=.any:=by
 rcases i with _|_|i
 ·rfl
 ·rfl
 ·exact amw 21 i
structure aci (n0 l b0:Nat) (s:ByteArray) (a:Act) (W:World):Prop where
 defers:∃ms:rT Nat,a.defers=ms.map mk1/\ms.Nodup/\∀k∈ms,W.heap[k]?=some (.deferred (some []))/\n0<=k
 size0:n0<=W.heap.size
 size:25<=a.tmps.size
 t0:a.tmps.getD 0 undef=.func (.yield l) #[] #[]
 t1:a.tmps.getD 1 undef=.pointer (some ⟨b0,0,none⟩)
 box:∃te,W.heap[b0]?=some (.cells #[.string s] te (0,0))
 glob:Globs.Φ W
@[reducible] def Gl (n0 l:Nat):Ghost:=⟨fun _=>False,[],none,n0,l,0,.unit,fun _ _ _ _=>False,fun _ _ _ _ _ _ h=>h.elim⟩
def aci.sim {n0 l b0:Nat} {s:ByteArray} {a:Act} {W:World} (H:aci n0 l b0 s a W) (c:¬b0<Globs.n):@Sim _ (Gl n0 l) (fun _=>.pointer (some ⟨b0,0,none⟩)) (liS s .any) a W:=by
 letI g:Ghost:=Gl n0 l
 obtain⟨f,hb⟩:=H.box;obtain⟨ms,p,o,m⟩:=H.defers;refine⟨⟨⟨ms,by rw[p]; exact(dO _).symm,o,fun k t=>m k t⟩,fun l r=>(by cases r),dX _,H.size0⟩,H.size,fun i=>?_,?_⟩
 ·rcases i with _|_|i
  ·exact H.t0
  ·exact⟨[.str s],b0,rfl,rfl,H.t1⟩
  ·rw[anA]; trivial
 ·refine⟨fun i=>?_,fun i j b hi e _ _=>?_,fun _ h=>h.elim,fun _ _ _ _ h=>h,H.glob,fun b d ⟨i,hi,q⟩=>?_⟩
  ·rcases i with _|i
   ·exact⟨b0,#[.string s],f,rfl,hb,⟨⟨rfl,rfl⟩,trivial⟩⟩
   ·rw[show lkB (liS s .any).h (i+1)=.dead from GG _ _ (Nat.succ_le_succ (dX i))]; trivial
  ·rcases i with _|i
   ·rcases j with _|j
    ·rfl
    ·rw[show lkB (liS s .any).h (j+1)=.dead from GG _ _ (Nat.succ_le_succ (dX j))] at e; cases e
   ·rw[show lkB (liS s .any).h (i+1)=.dead from GG _ _ (Nat.succ_le_succ (dX i))] at hi; cases hi
  ·cases q; exact c d
structure Kj (b0:Nat) (W W':World):Prop where
 size:W.heap.size<=W'.heap.size
 same:∀b,b<W.heap.size->b≠b0->W'.heap[b]?=W.heap[b]?
 os:W'.os=W.os
 tape:W'.tape=W.tape
 output:W'.output=W.output
noncomputable def PK {n0 l b0:Nat} {S:St} {s s':ByteArray} {a:Act} {W:World} {c:Code} {bid:Nat} {e:Exit} {x:AV} (m:@Sim _ (Gl n0 l) (fun _=>.pointer (some ⟨b0,0,none⟩)) S a W) (z:S.h=[.cells [.str s]]) (O:n0<=W.heap.size) (r:Ø bid c=[])
 (law:goC (liE liT) (Ğ (liE liT) 10) 82 [] 1 bid c S liK=some (e,.yld,.box 0 0,x,[.cells [.str s']],25,true)) :
 c.wpIn Fence.wide 0 Tryz.prog (fun C t W'=>C=e/\aci n0 l b0 s' t W'/\(∀y,x=.str y->t.tmps.getD 3 undef=.string y)/\Kj b0 W W') a W:=by
 letI g:Ghost:=Gl n0 l
 have k:=qr (amx) (iZ hmixL _ _ amx) (path:=[]) rfl c bid S liK (fun _=>.pointer (some ⟨b0,0,none⟩)) a W (by rw[r]; exact fun _ h=>by cases h) law m (by rw[z]; exact du 1);rw[Wy rfl] at k;refine wpIn_mono k fun C t W' ha=>?_;obtain⟨ν',S',f,d,g3,g4,Y⟩:=ha;rw[z] at d;have o:=Option.some.inj Y;simp only[Prod.mk.injEq] at o;obtain⟨rfl,M,k1,L,K,Z,_⟩:=o;have j:ν' 0=.pointer (some ⟨b0,0,none⟩):=(d.blk 0 (by decide)).2;have A:=f.heap.blk 0;rw[K] at A;obtain⟨b,c,D,B,h2,X⟩:=A;rw[j] at B;cases B;obtain⟨u,V,U⟩:=X.one;have T:u=.string s':=U.1
 have R:c=#[.string s']:=by rw[<-d9,V,T]
 rw[R] at h2;have t0:=f.tmps 0;rw[M] at t0;have t1:=f.tmps 1;rw[k1] at t1;obtain⟨_,b',_,v,E⟩:=t1;rw[j] at v;cases v;obtain⟨⟨ms,J,H,G⟩,_⟩:=f.defers;have p:=f.tmps 3;rw[L] at p;refine⟨rfl,⟨⟨ms,J.trans (dO _),H,G⟩,by have:=d.size; omega,by have:=f.len; omega,t0,E,⟨D,h2⟩,f.heap.glob⟩,fun y N=>by rw[N] at p; exact p,⟨d.size,fun b hb q=>(d.keep b hb ?_).1,d.os,d.tape,d.output⟩⟩;rintro⟨i,hi,Q⟩;cases Q;exact q rfl
noncomputable def Ar {n0 l b0:Nat} {s s':ByteArray} {a:Act} {W:World} {c:Code} {bid:Nat} {e:Exit} {x:AV} (d:¬b0<Globs.n) (b:Ø bid c=[])
 (law:goC (liE liT) (Ğ (liE liT) 10) 82 [] 1 bid c (liS s .any) liK=some (e,.yld,.box 0 0,x,[.cells [.str s']],25,true)) (H:aci n0 l b0 s a W) :
 c.wpIn Fence.wide 0 Tryz.prog (fun g f W'=>g=e/\aci n0 l b0 s' f W'/\(∀y,x=.str y->f.tmps.getD 3 undef=.string y)/\Kj b0 W W') a W :=
 PK (H.sim d) rfl H.size0 b law
def Uk {n:Nat} {s:ByteArray} (h:s.size=0):ow n s=[]:=by
 cases n with
 |zero=>rfl
 |succ n=>unfold ow; rw[if_pos h]
def aci.sim24 {n0 l b0:Nat} {s:ByteArray} {a:Act} {W:World} {b:Bool} (H:aci n0 l b0 s a W) (d:¬b0<Globs.n) (hb:a.tmps.getD 24 undef=.bool b):@Sim _ (Gl n0 l) (fun _=>.pointer (some ⟨b0,0,none⟩)) {(liS s .any) with t:=upd (liS s .any).t 24 (.bool b)} a W:=by
 letI g:Ghost:=Gl n0 l
 have c:=H.sim d;refine⟨c.defers,?_,fun i=>?_,c.heap⟩
 ·show(upd (liS s .any).t 24 (.bool b)).length<=_;rw[IA]; exact c.len
 ·show VR _ _ _ (lk (upd (liS s .any).t 24 (.bool b)) i) _;rw[adx]
  split
  ·rename_i hi;rw[hi.1]; exact hb
  ·exact c.tmps i
def ah0:Ø 0 li0=[]:=by kernel_rfl
def loopsR:Ø 1 liR=[]:=by kernel_rfl
def amu:Ø 1 liM=[]:=by kernel_rfl
def amv:Ø 1 liC=[]:=by kernel_rfl
def res82:Tryz.f82.results=#[]:=by kernel_rfl
noncomputable def Kj.trans {b0:Nat} {A B C:World} (h:Kj b0 A B) (k:Kj b0 B C):Kj b0 A C :=
 ⟨dG h.size k.size,fun b hb a=>(k.same b (dD hb h.size) a).trans (h.same b hb a),k.os.trans h.os,k.tape.trans h.tape,k.output.trans h.output⟩
noncomputable def liL:Code:=.seq li0 (.block 1 (.seq liR (.seq liM (.seq liY liC))))
structure LiI (n0 l b0:Nat) (I:rT ByteArray->World->Prop) (Ix:World->Prop):Prop where
 gn:¬b0<Globs.n
 phi:∀rest W,I rest W->Globs.Φ W
 phx:∀W,Ix W->Globs.Φ W
 hI:∀rest W W' v,I rest W->W.heap.size<=W'.heap.size->(∀b,b<W.heap.size->b≠b0->W'.heap[b]?=W.heap[b]?\/(n0<=b/\∃ds:rF (rT Deferred),W.heap[b]?=some (.deferred ds)))->(∃te,W'.heap[b0]?=some (.cells #[v] te (0,0)))->W'.os=W.os->W'.tape=W.tape->W'.output=W.output->I rest W'
 hIx:∀W W' v,Ix W->W.heap.size<=W'.heap.size->(∀b,b<W.heap.size->b≠b0->W'.heap[b]?=W.heap[b]?\/(n0<=b/\∃ds:rF (rT Deferred),W.heap[b]?=some (.deferred ds)))->(∃te,W'.heap[b0]?=some (.cells #[v] te (0,0)))->W'.os=W.os->W'.tape=W.tape->W'.output=W.output->Ix W'
 hY:∀y rest W v,I (y::rest) W->(∃te,W.heap[b0]?=some (.cells #[v] te (0,0)))->YieldAt Fence.wide 0 Tryz.prog l #[.string y] W fun e W'=>W.heap.size<=W'.heap.size/\W'.heap[b0]?=W.heap[b0]?/\(∀(k:Nat) (ds:rF (rT Deferred)),W.heap[k]?=some (.deferred ds)->W'.heap[k]?=some (.deferred ds))/\((e=.returned (.bool true)/\I rest W')\/(e=.returned (.bool false)/\Ix W'))
section
variable {n0 l b0:Nat} {I:rT ByteArray->World->Prop} {Ix:World->Prop}
abbrev LiR (b0:Nat) (I:rT ByteArray->World->Prop) (Ix:World->Prop) (e:Ending) (W':World):Prop:=∃u s',e=.returned u/\(∃te,W'.heap[b0]?=some (.cells #[.string s'] te (0,0)))/\(I [] W'\/Ix W')
abbrev LiQ (b0:Nat) (I:rT ByteArray->World->Prop) (Ix:World->Prop):Exit->Act->World->Prop:=bodyPostM Fence.wide 0 Tryz.prog Tryz.f82 (LiR b0 I Ix)
noncomputable def LiI.stepI (h:LiI n0 l b0 I Ix) {rest:rT ByteArray} {s':ByteArray} {a:Act} {W W':World} (hI:I rest W) (k:Kj b0 W W') (H:aci n0 l b0 s' a W'):I rest W' :=
 h.hI rest W W' _ hI k.size (fun b hb c=>.inl (k.same b hb c)) H.box k.os k.tape k.output
def LiI.stepX (h:LiI n0 l b0 I Ix) {s':ByteArray} {a:Act} {W W':World} (hI:Ix W) (k:Kj b0 W W') (H:aci n0 l b0 s' a W'):Ix W' :=
 h.hIx W W' _ hI k.size (fun b hb c=>.inl (k.same b hb c)) H.box k.os k.tape k.output
def aij (h:LiI n0 l b0 I Ix) {s:ByteArray} {a:Act} {W:World} (H:aci n0 l b0 s a W) (i:I [] W\/Ix W):LeavesInM Fence.wide 0 Tryz.prog Tryz.f82 a.tmps (LiR b0 I Ix) a.defers .returning W:=by
 obtain⟨ms,v,u,g⟩:=H.defers;obtain⟨f,hb⟩:=H.box;rw[v];refine nM ms W u (fun k x=>(g k x).1) fun W' t r p o m=>?_
 have j:b0∉ms:=fun e=>by
  have:=(g b0 e).1;rw[hb] at this; cases this
 have d:∀b,b<W.heap.size->b≠b0->W'.heap[b]?=W.heap[b]?\/(n0<=b/\∃y:rF (rT Deferred),W.heap[b]?=some (.deferred y)):=fun b _ _=>by
  by_cases e:b∈ms
  ·exact .inr ⟨(g b e).2,_,(g b e).1⟩
  ·exact .inl (m b e)
 have c:W'.heap[b0]?=some (.cells #[.string s] f (0,0)):=(m b0 j).trans hb;refine⟨_,results_none res82 _ _ _,_,s,rfl,⟨f,c⟩,?_⟩;rcases i with q|q
 ·exact .inl (h.hI _ W W' _ q (fM t.symm) d ⟨f,c⟩ r p o)
 ·exact .inr (h.hIx W W' _ q (fM t.symm) d ⟨f,c⟩ r p o)
def afH:(⟨#[]⟩:ByteArray).size=0:=rfl
noncomputable def aih (h:LiI n0 l b0 I Ix) {n m:Nat} {s y:ByteArray} {a:Act} {W:World} (M:s.size<=n) (O:Î s.size=true) (H:aci n0 l b0 s a W) (L:a.tmps.getD 3 undef=.string y) (hI:I (y::ow n s) W)
 (K:∀(b:Act) (W':World),aci n0 l b0 s b W'->I (ow n s) W'->Code.roundsIn Fence.wide 0 Tryz.prog liL (Exit.inBlock 0 (LiQ b0 I Ix)) m b W') :
 (Code.seq liY liC).wpIn Fence.wide 0 Tryz.prog (Exit.inBlock 1 (Exit.then (Code.roundsIn Fence.wide 0 Tryz.prog liL (Exit.inBlock 0 (LiQ b0 I Ix)) m) (Exit.inBlock 0 (LiQ b0 I Ix)))) a W:=by
 apply wpIn_seq;obtain⟨z,hb⟩:=H.box;refine li_Y H.t0 L H.size (h.hY y _ W _ hI ⟨z,hb⟩) fun e W' d=>?_;obtain⟨N,u,hd,t⟩:=d
 have j:∀b:Act,b.defers=a.defers->b.tmps.size=a.tmps.size->b.tmps.getD 0 undef=a.tmps.getD 0 undef->b.tmps.getD 1 undef=a.tmps.getD 1 undef->Globs.Φ W'->aci n0 l b0 s b W':=fun b i c g f r=>by
  obtain⟨ms,J,G,B⟩:=H.defers;exact⟨⟨ms,i.trans J,G,fun k C=>⟨hd k _ (B k C).1,(B k C).2⟩⟩,dG H.size0 N,by rw[c]; exact H.size,g.trans H.t0,f.trans H.t1,⟨z,u.trans hb⟩,r⟩
 rcases t with⟨rfl,q⟩|⟨rfl,q⟩
 ·refine⟨true,rfl,fun b i c g f v=>?_⟩;have A:=j b i c g f (h.phi _ _ q);have:=PK (e:=.normal) (x:=.any) (s':=s) (A.sim24 h.gn v) rfl A.size0 amv (li_C s false);refine wpIn_mono this fun c D E ⟨d,o,_,p⟩=>?_;subst d;exact K D E o (h.stepI q p o)
 ·refine⟨false,rfl,fun b i c g f v=>?_⟩;have A:=j b i c g f (h.phx _ q);have:=PK (e:=.ret) (x:=.any) (s':=s) (A.sim24 h.gn v) rfl A.size0 amv (li_C s true);refine wpIn_mono this fun c D E ⟨d,o,_,p⟩=>?_;subst d;exact aij h o (.inr (h.stepX q p o))
def anD {s:ByteArray} {c:UInt8} (h:0<=Lib.indexByte s.data.toList c):∃k:Nat,Lib.indexByte s.data.toList c=k/\k<s.size:=by
 obtain⟨k,a⟩:=fP h;refine⟨k,a,?_⟩;have:=(Lib.indexByte_some a).1;have h2:=(dC.1 this).1;simpa using h2
def amK {n:Int} (h0:0<=n) (a:n<=4294967297):agq n=n:=by
 show IntKind.i64.wrap n=n;rw[IntKind.wrap_i64]; omega
def aii (h:LiI n0 l b0 I Ix):∀(n:Nat) (s:ByteArray) (a:Act) (W:World),s.size<=n->Î s.size=true->aci n0 l b0 s a W->I (ow n s) W->Code.roundsIn Fence.wide 0 Tryz.prog liL (Exit.inBlock 0 (LiQ b0 I Ix)) (n+1) a W:=by
 intro n
 induction n with
 |zero =>
  intro s a W E i H hI
  have f:s.size=0:=by omega
  rw[roundsIn_succ];apply wpIn_seq;have law:=li_0 s;rw[show igt (HC s.size) 0=false by rw[ln,f]; rfl] at law;refine wpIn_mono (Ar (e:=.exit 0) (x:=.any) (s':=s) h.gn ah0 law H) fun e j W' ⟨c,o,_,k⟩=>?_;subst c;exact aij h o (.inl (h.stepI hI k o))
 |succ n z =>
  intro s a W E i H hI;rw[roundsIn_succ];apply wpIn_seq
  by_cases f:s.size=0
  ·have law:=li_0 s;rw[show igt (HC s.size) 0=false by rw[ln,f]; rfl] at law;rw[Uk f] at hI;refine wpIn_mono (Ar (e:=.exit 0) (x:=.any) (s':=s) h.gn ah0 law H) fun e j W' ⟨c,o,_,k⟩=>?_;subst c;exact aij h o (.inl (h.stepI hI k o))
  ·have law:=li_0 s
   have v:igt (HC s.size) 0=true:=by
    rw[ln];exact decide_eq_true (by omega)
   rw[v] at law;refine wpIn_mono (Ar (e:=.normal) (x:=.any) (s':=s) h.gn ah0 law H) fun e N Q ⟨c,L,_,k1⟩=>?_;subst c;apply wpIn_block;apply wpIn_seq;refine wpIn_mono (Ar (e:=.normal) (x:=.str ⟨#[]⟩) (s':=s) h.gn loopsR (li_R s) L) fun e M O ⟨c,C,_,y⟩=>?_;subst c;apply wpIn_seq;have b:=li_M s;have B:s.size<=4294967296:=of_decide_eq_true i;unfold ow at hI;rw[if_neg f] at hI;change goC (liE liT) (Ğ (liE liT) 10) 82 [] 1 1 liM (liS s .any) liK=alj s (Lib.indexByte s.data.toList 10) at b
   by_cases p:0<=Lib.indexByte s.data.toList 10
   ·rw[if_pos p] at hI;obtain⟨k,J,G⟩:=anD p;rw[J] at b hI;unfold alj at b;have D:agq ((k:Int)+1)=(k:Int)+1:=amK (by omega) (by omega);rw[D,show ige (k:Int) 0=true from decide_eq_true (by omega),show(decide (0<=(k:Int)+1)&&decide ((k:Int)+1<=s.size))=true by simp; omega] at b
    have g:(s.extract ((k:Int)+1).toNat s.size).size<=n:=by
     rw[ByteArray.size_extract]; omega
    have d:Î (s.extract ((k:Int)+1).toNat s.size).size=true:=decide_eq_true (by rw[ByteArray.size_extract]; omega);refine wpIn_mono (Ar (e:=.normal) (x:=.str (s.extract 0 ((k:Int)+1).toNat)) (s':=s.extract ((k:Int)+1).toNat s.size) h.gn amu b C) fun e a3 K ⟨c,m,t,r⟩=>?_;subst c;exact aih h g d m (t _ rfl) (h.stepI hI (k1.trans (y.trans r)) m) fun j W' A q=>z _ j W' g d A q
   ·rw[if_neg p] at hI;unfold alj at b;rw[show ige (Lib.indexByte s.data.toList 10) 0=false from decide_eq_false p] at b;have u:ow n ⟨#[]⟩=[]:=Uk afH;refine wpIn_mono (Ar (e:=.normal) (x:=.str s) (s':=⟨#[]⟩) h.gn amu b C) fun e a3 K ⟨c,m,t,r⟩=>?_;subst c;exact aih h (n:=n) (Nat.zero_le _) rfl m (t _ rfl) (by rw[u]; exact h.stepI hI (k1.trans (y.trans r)) m) fun j W' A q=>z _ j W' (Nat.zero_le _) rfl A q
end
def nt82:Tryz.f82.ntmps=25:=by kernel_rfl
def amA:Tryz.prog.funcs[82]?=some Tryz.f82:=by kernel_rfl
def alh {N:Nat} (c:N=25) {l b0:Nat} {s:ByteArray} {w:World} (hb:∃b,w.heap[b0]?=some (.cells #[.string s] b (0,0))) (a:Globs.Φ w) :
 aci w.heap.size l b0 s {tmps:=#[.func (.yield l) #[] #[],.pointer (some ⟨b0,0,none⟩)]++Array.replicate (N-(#[.func (.yield l) #[] #[],.pointer (some ⟨b0,0,none⟩)]:Array Value).size) undef,defers:=[]} w:=by
 subst c;exact⟨⟨[],rfl,fI,fun _ h=>by cases h⟩,du _,by simp,by simp[dT],by simp[dT],hb,a⟩
def ali {P:Program} {f:Nat} {fn:Func} {c:Code} {a:Array Value} {w:World} {R:Ending->World->Prop} (b:P.funcs[f]?=some fn) (hb:fn.body=some c)
 (h:c.wpIn Fence.wide 0 P (bodyPostM Fence.wide 0 P fn R) {tmps:=a++Array.replicate (fn.ntmps-a.size) undef,defers:=[]} w):CallsIn Fence.wide 0 P f a w R :=
 callsIn_of_wp_marks b hb trivial h
def ady:QP Tryz.prog 82 kO where
 ok:=fun s l b0 I Ix w c a b d hI hIx hY h0 hb=>by
  have h:LiI w.heap.size l b0 I Ix:=⟨d,a,b,hI,hIx,hY⟩;have A:=alh nt82 (l:=l) hb (a _ _ h0)
  have W:liB.wpIn Fence.wide 0 Tryz.prog (LiQ b0 I Ix) {tmps:=#[.func (.yield l) #[] #[],.pointer (some ⟨b0,0,none⟩)]++Array.replicate (Tryz.f82.ntmps-(#[.func (.yield l) #[] #[],.pointer (some ⟨b0,0,none⟩)]:Array Value).size) undef,defers:=[]} w:=by
   rw[liB_eq];apply wpIn_block;apply wpIn_loop_rounds (s.size+1);exact aii h s.size s _ w (du _) c A h0
  exact⟨⟨_,_,amA,amy⟩,ali amA amy W⟩
end Go.Proofs.ZzM
end

noncomputable section
namespace Go.Proofs.ZzM
open Go Go.Am Go.RowKit
set_option maxRecDepth 100000
def anK:Tryz.laysIndex_ren.f 143=30:=by kernel_rfl
def gMaxI:Tryz.laysIndex_ren.g 1=gMax:=by kernel_rfl
def Qy:Ķ Tryz.prog 30 xD:=jd ⟨_,_,Tryz.func30,rfl⟩ fun G x y a w vals o b c=>by
 obtain⟨k,vs,rfl,i,j,rfl,h2⟩:=c;rw[zR i,zR h2];have a:HJ x.1 x.2=some y:=a;unfold HJ at a
 split at a<;>cases a
 rename_i f;obtain⟨m,g⟩:=b.max;have:=Any.strings_Index Tryz.laysIndex x.1 x.2 m w f (by rw[gMaxI]; exact g);rw[anK] at this;exact this.mono fun e w' ⟨h,d⟩=>⟨_,h,int_arg _ _,by rw[d]; exact Below.refl _ _⟩
end Go.Proofs.ZzM
end

noncomputable section
namespace Go.Proofs.ZzM
open Go Go.Am
def hmix:Tryz.prog.follows .mixedOrders=true:=by kernel_rfl
def plain_ : (Tryz.prog.funcs.toList.all fun fn => !(fn.name == "runtime.NumGoroutine")) = true := by kernel_rfl
def plain (f : Nat) (fn : Func) (h : Tryz.prog.funcs[f]? = some fn) : (fn.name == "runtime.NumGoroutine") = false := by
 have:=dM.1 plain_ fn (dJ (i:=f) (by simpa using h));simpa using this
def amZ:Tryz.laysSort_ren.f 189=137:=by kernel_rfl
def aeA:Tryz.laysCompact_ren.f 20=260:=by kernel_rfl
section
variable [Ghost] {ρ:Type}
def sortOk (f:Nat) (a:Zt f=true) (h:rT Blk) (x:AV) (K:AV->rT Blk->rF ρ) (q:ρ) (e:U8 h x K=some q) (ν:Nat->Value) (w:World) (u:Value) (H:HR ν h w) (b:VR ν h w x u):HB Tryz.prog f ν h w [u] K q:=by
 have c:f=137:=by
  unfold Zt at a
  split at a
  ·rfl
  ·cases a
 subst c;have:=amR Tryz.laysSort e H b ⟨_,rfl⟩
 rwa [amZ] at this
def aiW (f:Nat) (a:zF f=true) (h:rT Blk) (x:AV) (K:AV->rT Blk->rF ρ) (q:ρ) (e:o9 h x K=some q) (ν:Nat->Value) (w:World) (u:Value) (H:HR ν h w) (b:VR ν h w x u):HB Tryz.prog f ν h w [u] K q:=by
 have c:f=260:=by
  unfold zF at a
  split at a
  ·rfl
  ·cases a
 subst c;have:=afK Tryz.laysCompact e H b ⟨_,rfl⟩
 rwa [aeA] at this
def anU:Ja Tryz.prog PO:=by
 intro g c fz S nid x v d e ν w u H a b hd;unfold PO at c
 split at c
 ·exact vT Tryz.func49 (T:=31) (by kernel_rfl) (by kernel_rfl) e H a b hd
 ·exact vT Tryz.func50 (T:=41) (by kernel_rfl) (by kernel_rfl) e H a b hd
 ·exact vT Tryz.func135 (T:=24) (by kernel_rfl) (by kernel_rfl) e H a b hd
 ·exact vT Tryz.func143 (T:=27) (by kernel_rfl) (by kernel_rfl) e H a b hd
 ·exact vT Tryz.func300 (T:=25) (by kernel_rfl) (by kernel_rfl) e H a b hd
 ·exact vT Tryz.func301 (T:=26) (by kernel_rfl) (by kernel_rfl) e H a b hd
 ·exact vT Tryz.func302 (T:=28) (by kernel_rfl) (by kernel_rfl) e H a b hd
 ·cases c
def xg {c:rT (Nat×ì)} (h:∀e∈c,Ķ Tryz.prog e.1 e.2) (E:Env ρ) (b:E.P=Tryz.prog) (m:E.pure=Wx c) (h2:E.sort=Zt) (k:E.compact=zF) (j:E.clone=PO) (i:aei E) (g:∀f X,E.ext f=some X->aau E.P f X) (d:Γ E):Bm E:=by
 constructor
 ·intro f p a;rw[m] at a;rw[b];exact h (f,p) (Uw a)
 ·intro f a;rw[h2] at a;rw[b];exact sortOk f a
 ·intro f a;rw[k] at a;rw[b];exact aiW f a
 ·rw[b]; exact plain
 ·rw[b,j]; exact anU
 ·exact i
 ·exact d
 ·exact g
def libN [LC] {a:rT (Nat×ì)} (h:∀e∈a,Ķ Tryz.prog e.1 e.2) (tab:rT (é ρ)):Bm (Ö a tab):=xg h _ rfl rfl rfl rfl rfl (Ē rfl) (ke rfl) (ŝ rfl)
end
abbrev ZP (f:Nat) (p:ì):Prop:=Ķ Tryz.prog f p
def zt [LC] {f:Nat} {p:ì} {a:rT (Nat×ì)} {tab:rT (é (Val (tyL p.rs)))} (E:Env (Val (tyL p.rs))) (c:∀e∈a,Ķ Tryz.prog e.1 e.2) (d:E=Ö a tab) (b:∀x∈tab,x.Ok E) (law:∀x:Val (tyL p.ts),topK E f (abK p.ts x) (fun h v=>Â (amY p.rs h v) some)=p.F x):Ķ Tryz.prog f p:=by
 subst d;exact LU (Ö a tab) (fun {_}=>libN c _) hmix (tab:=tab) rfl b (iA law)
set_option maxRecDepth 100000
def mc [LC]:ZP 62 iH:=zt (jJ _) Ã rfl (À t7 (À tZ Ã)) fun x=>by kernel_rfl
noncomputable def SB {n:Nat} (b:jZ Tryz.prog ⟨264,(.slice tI),(.slice tI),aaA n⟩):jZ Tryz.prog ⟨264,(.slice tI),(.slice tI),aaA (n+1)⟩:=Wo ⟨264,(.slice tI),(.slice tI),aaA (n+1)⟩ (fun al=>õ al (aaA n) _) rfl (fun _=>rfl) (fun _=>rfl) (fun _ {_} a=>xg (À mc Ã) _ rfl rfl rfl rfl rfl (Ē rfl) (ke rfl) a) hmix (fun al=>GD (E:=õ al (aaA n) _) hmix (tab:=wx al (aaA n) _) rfl (À E4 Ã) (rtab:=xW al (aaA n) _) rfl (À (EZ b) Ã) (À EY Ã)) (fun m xs h=>(Kv m (aaA (n+1))).trans (ag8 h))
def Ht:∀n:Nat,jZ Tryz.prog ⟨264,(.slice tI),(.slice tI),aaA n⟩
 |0=>⟨rfl,fun _ _ m xs h=>(Nat.not_lt_zero _ (acE (n:=0) (l:=m) (xs:=xs) h).1).elim⟩
 |n+1=>SB (Ht n)
def ai4:jZ Tryz.prog PM:=(Ht 10).mono fun _ _ h=>aeI h
noncomputable def LB {n:Nat} (b:jZ Tryz.prog ⟨210,(.slice ð),(.slice (.slice tI)),aaB n⟩):jZ Tryz.prog ⟨210,(.slice ð),(.slice (.slice tI)),aaB (n+1)⟩:=Wo ⟨210,(.slice ð),(.slice (.slice tI)),aaB (n+1)⟩ (fun al=>ç al (aaB n) _) rfl (fun _=>rfl) (fun _=>rfl) (fun _ {_} a=>xg Ã _ rfl rfl rfl rfl rfl (Ē rfl) (ke rfl) a) hmix (fun al=>GD (E:=ç al (aaB n) _) hmix (tab:=ro al (aaB n) _) rfl Ã (rtab:=tz al (aaB n) _) rfl (À (A7 b) (À (Bb ai4) Ã)) (À A6 (À Ba Ã))) (fun m xs h=>(Fh m (aaB (n+1))).trans (abT h))
def zL:∀n:Nat,jZ Tryz.prog ⟨210,(.slice ð),(.slice (.slice tI)),aaB n⟩
 |0=>⟨rfl,fun _ _ m xs h=>(Nat.not_lt_zero _ (acF (n:=0) (l:=m) (xs:=xs) h).1).elim⟩
 |n+1=>LB (zL n)
def Qn:jZ Tryz.prog qq:=(zL 10).mono fun _ _ h=>Z4 h
def ai3:jZ Tryz.prog GN:=Wo GN (fun al=>þ al (fun _=>none) _) rfl (fun _=>rfl) (fun _=>rfl) (fun _ {_} a=>xg Ã _ rfl rfl rfl rfl rfl (Ē rfl) (ke rfl) a) hmix (fun _=>L2 hmix rfl (À qO Ã) rfl) (fun m xs h=>(tX m GK).trans (agr h))
def AY [LC]:ZP 114 tg:=zt (Zh _) Ã rfl Ã fun x=>by kernel_rfl
def mH [LC]:ZP 220 ky:=zt (Zc _) Ã rfl Ã fun x=>by kernel_rfl
def Hx [LC]:ZP 200 xH:=zt (abu _) (À mH Ã) rfl Ã fun x=>by kernel_rfl
def ad4 [LC]:ZP 303 Vk:=zt (afa _) Ã rfl Ã fun x=>by kernel_rfl
def aju [LC]:ZP 304 aa1:=zt (Y8 _) Ã rfl (À VX Ã) fun x=>by kernel_rfl
def Hw [LC]:ZP 254 EE:=zt (abr _) (À ad4 (À aju Ã)) rfl Ã fun x=>by kernel_rfl
def ab1 [LC]:ZP 198 MS:=zt (Gt _) (À AY (À Hx (À mH (À Hw Ã)))) rfl Ã fun x=>Pm x some
def QG [LC]:ZP 115 xI:=zt (uz _) (À ab1 Ã) rfl (À zx Ã) fun x=>by kernel_rfl
def Ea [LC]:ZP 116 vc:=zt (Ga _) Ã rfl (À Im Ã) fun x=>by kernel_rfl
def uR [LC]:ZP 94 mj:=zt (qe _) Ã rfl (À vm Ã) fun x=>by kernel_rfl
def ł [LC]:ZP 75 Ħ:=zt (xb _) (À uR Ã) rfl Ã fun x=>by kernel_rfl
def ad5 [LC]:ZP 205 Vl:=zt (Ir _) (À ł Ã) rfl (À Sl (À Sk Ã)) fun x=>by kernel_rfl
def QF [LC]:ZP 118 EH:=zt (DR _) (À ad5 Ã) rfl (À Pd (À Pe Ã)) fun x=>by kernel_rfl
def sY [LC]:ZP 201 mJ:=zt (Lt _) Ã rfl Ã fun x=>by kernel_rfl
def ab0 [LC]:ZP 199 aa3:=zt (V5 _) (À Hx (À sY Ã)) rfl Ã fun x=>by kernel_rfl
def WQ [LC]:ZP 203 Vm:=zt (lU _) (À AY (À sY (À mH Ã))) rfl (À DU (À DT Ã)) fun x=>Iu x some
def UP [LC]:ZP 145 HX:=zt (J2 _) (À mH Ã) rfl (À Lv Ã) fun x=>by kernel_rfl
def Mk [LC]:ZP 146 EI:=zt (Iq _) (À ł Ã) rfl (À Sj (À Si Ã)) fun x=>by kernel_rfl
def ad6 [LC]:ZP 207 Vn:=zt (Ug _) (À mH Ã) rfl (À Sn Ã) fun x=>by kernel_rfl
def LH [LC]:ZP 204 Ko:=zt (ĺ _) (À mc (À AY (À UP (À Mk (À Hx (À sY (À ad6 (À mH Ã)))))))) rfl (À xf (À xd (À xe (À xc Ã)))) fun x=>Bg x some
end Go.Proofs.ZzM
end

noncomputable section
namespace Go.Proofs
open Go.RowKit
attribute [local go_sem] Oper.semAt_some
noncomputable def upE (f:Nat->Int) (k:Nat):rT Int:=(List.range k).map f
def qP (f:Nat->Int) (k:Nat):upE f (k+1)=upE f k++[f k]:=by simp[upE,g9]
def zZ (f:Nat->Int) (k:Nat):(upE f k).length=k:=by simp[upE]
def LL (f:Nat->Int) {j k:Nat} (h:j<=k):upE f j <+: upE f k:=by
 have:k=j+(k-j):=by omega
 rw[this,upE,upE,List.range_add,gF];exact eG _ _
set_option maxRecDepth 100000 in
set_option maxHeartbeats 1000000 in
noncomputable def akM (te:TypeId) (n:Nat) (hn:1<=n) (l n₀ bb tb sb:Nat) (flo fhi ga mv:Value) (hbb:bb<n₀) (htb:tb<n₀) (hsb:sb<n₀)
 (ub uo ul uc kb ko kl kc:Nat) (ubase kbase lbase cbase:rF Addr) (ll lc cl cc:Nat) (hub:0<ul->ubase=some ⟨ub,uo,none⟩/\ub<n₀) (hkb:0<kl->kbase=some ⟨kb,ko,none⟩/\kb<n₀)
 (U K:Nat->Int×Int) (eU eL eC eK:Nat->Int)
 (hul:ul<=1000) (hll:ll<=1000) (hcl:cl<=1000) (hkl:kl<=1000)
 (W:World) (hb0:W.heap[bb]?=some (.cells #[flo,fhi,ga,.slice ubase ul uc,.slice lbase ll lc,.slice cbase cl cc,.slice kbase kl kc] te (0,0)))
 (ht:W.cell? ⟨tb,0,none⟩=some (.func (.func 199) #[] #[.pointer (some ⟨sb,0,none⟩)])) (hs:W.cell? ⟨sb,0,none⟩=some mv)
 (hU:∀j,j<ul->W.cell? ⟨ub,uo+j*2,none⟩=some (.int .i64 (U j).1)/\W.cell? ⟨ub,uo+j*2+1,none⟩=some (.int .i64 (U j).2))
 (hK:∀j,j<kl->W.cell? ⟨kb,ko+j*2,none⟩=some (.int .i64 (K j).1)/\W.cell? ⟨kb,ko+j*2+1,none⟩=some (.int .i64 (K j).2))
 (cU:∀j,j<ul->∀W',Below n₀ W W'->CallsIn Fence.wide (n-1) Tryz.prog 199 #[.int .i64 (U j).1,.int .i64 (U j).2,.pointer (some ⟨sb,0,none⟩)] W' fun e W''=>e=.returned (.int .i64 (eU j))/\W'.grownBy W'' none)
 (cK:∀j,j<kl->∀W',Below n₀ W W'->CallsIn Fence.wide (n-1) Tryz.prog 199 #[.int .i64 (K j).1,.int .i64 (K j).2,.pointer (some ⟨sb,0,none⟩)] W' fun e W''=>e=.returned (.int .i64 (eK j))/\W'.grownBy W'' none)
 (cL:∀j,j<ll->∀W',Below n₀ W W'->CallsIn Fence.wide (n-1) Tryz.prog 203 #[.agg #[flo,fhi,ga,.slice ubase ul uc,.slice lbase ll lc,.slice cbase cl cc,.slice kbase kl kc],mv,.int .i64 j] W' fun e W''=>e=.returned (.int .i64 (eL j))/\W'.grownBy W'' none)
 (cC:∀j,j<cl->∀W',Below n₀ W W'->CallsIn Fence.wide (n-1) Tryz.prog 204 #[.agg #[flo,fhi,ga,.slice ubase ul uc,.slice lbase ll lc,.slice cbase cl cc,.slice kbase kl kc],mv,.int .i64 j] W' fun e W''=>e=.returned (.int .i64 (eC j))/\W'.grownBy W'' none)
 (J Jx:rT Int->World->Prop) (hJ:∀pre W W',J pre W->W.grownBy W' none->J pre W') (hJx:∀pre W W',Jx pre W->W.grownBy W' none->Jx pre W')
 (hY:∀pre x W,J pre W->pre.length<ul+(ll+(cl+kl))->YieldAt Fence.wide (n-1) Tryz.prog l #[.int .i64 x] W fun e W' =>
  (e=.returned (.bool true)/\J (pre++[x]) W'/\Below n₀ W W')\/(e=.returned (.bool false)/\Jx (pre++[x]) W'))
 (h0 : J [] W) (hn₀ : n₀ <= W.heap.size) :
  CallsIn Fence.wide n Tryz.prog 202 #[.func (.yield l) #[] #[],.pointer (some ⟨bb,0,none⟩),.pointer (some ⟨tb,0,none⟩),.pointer (some ⟨sb,0,none⟩)] W fun e W'=>(∃v,e=.returned v) /\
   ((∃xs,xs=upE eU ul++(upE eL ll++(upE eC cl++upE eK kl))/\J xs W')\/(∃pre,(pre <+: upE eU ul++(upE eL ll++(upE eC cl++upE eK kl)))/\Jx pre W')):=by
 have grown_alloc:∀(X:World) (o:Obj),X.grownBy (X.alloc o) none:=fun X o=>World.grownBy_alloc X o none
 have bel:∀{X Y:World},Below n₀ W X->X.grownBy Y none->Below n₀ W Y:=fun {X Y} h g =>
  ⟨g.os.trans h.os,g.tape.trans h.tape,g.output.trans h.output,dG h.size g.size,fun k hk=>(g.block k (dD (dD hk hn₀) h.size) (by simp)).trans (h.block k hk)⟩
 have hc:∀{X:World},Below n₀ W X->X.heap[bb]?=some (.cells #[flo,fhi,ga,.slice ubase ul uc,.slice lbase ll lc,.slice cbase cl cc,.slice kbase kl kc] te (0,0)):=fun h=>(h.block bb hbb).trans hb0;refine callsIn_of_wp Tryz.func202 rfl trivial ?_ rfl;simp only[Tryz.ntmps202,fN,dz,dI,Nat.reduceAdd,Nat.reduceSub,Array.replicate_succ,Array.replicate_zero,List.push_toArray,gE,eA,eT]
 have hb3:W.cell? ⟨bb,3,none⟩=some (.slice ubase ul uc):=by simp[World.cell?,hb0]
 gi_wp2
 gi_loopw [14] (fun i wr=>∃k:Nat,k<=ul/\i=.int .i64 k/\J (upE eU k) wr/\Below n₀ W wr)
  (fun i _=>ul-(intOf i).toNat)
 case atStart=>exact⟨0,dX _,rfl,h0,Below.refl _ _⟩
 case round =>
  obtain⟨k,hk,rfl,hJs,hnx⟩:=hrel
  by_cases hlt:k<ul
  ·obtain⟨rfl,hlu⟩:=hub (by omega);have hu1:=(hnx.cell (p:=⟨ub,uo+k*2,none⟩) hlu).trans (hU k hlt).1;have hu2:=(hnx.cell (p:=⟨ub,uo+k*2+1,none⟩) hlu).trans (hU k hlt).2;have ht':=(hnx.cell (p:=⟨tb,0,none⟩) htb).trans ht;have hta:∀o,(wr.alloc o).cell? ⟨tb,0,none⟩=some (.func (.func 199) #[] #[.pointer (some ⟨sb,0,none⟩)]):=fun o=>Lib.cell?_alloc_some _ ht'
   gi_wp2
   refine⟨trivial,(cU k hlt _ (bel hnx (grown_alloc _ _))).mono ?_⟩;rintro e W2 ⟨rfl,hg2⟩;obtain⟨fn,tmps,assign,body,hy,hR⟩:=hY _ (eU k) W2 (hJ _ _ _ (hJ _ _ _ hJs (grown_alloc _ _)) hg2) (by rw[zZ]; omega);have hb2:=bel (bel hnx (grown_alloc _ _)) hg2
   gi_wp2
   refine hR.mono ?_;rintro e W3 (⟨rfl,hJ3,hk3⟩|⟨rfl,hJx3⟩)
   ·gi_wp2
    go_roundw
    case rel=>exact⟨k+1,by omega,by simp,by rw[qP]; exact hJ3,hb2.trans hk3⟩
    case measure=>simp[intOf]; omega
   ·gi_wp2
    refine bodyPost_ret (results_none rfl _ _ _) rfl ?_;refine⟨⟨_,rfl⟩,.inr ⟨_,?_,hJx3⟩⟩;rw[<-qP];exact(LL eU (by omega)).trans (eG _ _)
  ·obtain rfl:ul=k:=by omega
   have hb4:wr.cell? ⟨bb,4,none⟩=some (.slice lbase ll lc):=by simp[World.cell?,hc hnx]
   gi_wp2
   gi_loopw [31] (fun i wr=>∃k:Nat,k<=ll/\i=.int .i64 k/\J (upE eU ul++upE eL k) wr/\Below n₀ W wr)
    (fun i _=>ll-(intOf i).toNat)
   case atStart=>exact⟨0,dX _,rfl,by simpa[upE] using hJs,hnx⟩
   case round =>
    clear hJs hnx;obtain⟨k,hk,rfl,hJs,hnx⟩:=hrel
    by_cases hlt:k<ll
    ·have q0:wr.cell? ⟨bb,0,none⟩=some flo:=by simp[World.cell?,hc hnx]
     have q1:wr.cell? ⟨bb,1,none⟩=some fhi:=by simp[World.cell?,hc hnx]
     have q2:wr.cell? ⟨bb,2,none⟩=some ga:=by simp[World.cell?,hc hnx]
     have q3:wr.cell? ⟨bb,3,none⟩=some (.slice ubase ul uc):=by simp[World.cell?,hc hnx]
     have q4:wr.cell? ⟨bb,4,none⟩=some (.slice lbase ll lc):=by simp[World.cell?,hc hnx]
     have q5:wr.cell? ⟨bb,5,none⟩=some (.slice cbase cl cc):=by simp[World.cell?,hc hnx]
     have q6:wr.cell? ⟨bb,6,none⟩=some (.slice kbase kl kc):=by simp[World.cell?,hc hnx]
     have hs':=(hnx.cell (p:=⟨sb,0,none⟩) hsb).trans hs
     gi_wp2
     refine⟨trivial,(cL k hlt _ hnx).mono ?_⟩;rintro e W2 ⟨rfl,hg2⟩;obtain⟨fn,tmps,assign,body,hy,hR⟩:=hY _ (eL k) W2 (hJ _ _ _ hJs hg2) (by simp only[dw,zZ]; omega);have hb2:=bel hnx hg2
     gi_wp2
     refine hR.mono ?_;rintro e W3 (⟨rfl,hJ3,hk3⟩|⟨rfl,hJx3⟩)
     ·gi_wp2
      go_roundw
      case rel=>exact⟨k+1,by omega,by simp,by rw[qP,<-dH]; exact hJ3,hb2.trans hk3⟩
      case measure=>simp[intOf]; omega
     ·gi_wp2
      refine bodyPost_ret (results_none rfl _ _ _) rfl ?_;refine⟨⟨_,rfl⟩,.inr ⟨_,?_,hJx3⟩⟩;rw[dH,<-qP];exact(ff _).2 ((LL eL (by omega)).trans (eG _ _))
    ·obtain rfl:ll=k:=by omega
     have hb5:wr.cell? ⟨bb,5,none⟩=some (.slice cbase cl cc):=by simp[World.cell?,hc hnx]
     gi_wp2
     gi_loopw [45] (fun i wr=>∃k:Nat,k<=cl/\i=.int .i64 k/\J (upE eU ul++upE eL ll++upE eC k) wr/\Below n₀ W wr)
      (fun i _=>cl-(intOf i).toNat)
     case atStart=>exact⟨0,dX _,rfl,by simpa[upE] using hJs,hnx⟩
     case round =>
      clear hJs hnx;obtain⟨k,hk,rfl,hJs,hnx⟩:=hrel
      by_cases hlt:k<cl
      ·have q0:wr.cell? ⟨bb,0,none⟩=some flo:=by simp[World.cell?,hc hnx]
       have q1:wr.cell? ⟨bb,1,none⟩=some fhi:=by simp[World.cell?,hc hnx]
       have q2:wr.cell? ⟨bb,2,none⟩=some ga:=by simp[World.cell?,hc hnx]
       have q3:wr.cell? ⟨bb,3,none⟩=some (.slice ubase ul uc):=by simp[World.cell?,hc hnx]
       have q4:wr.cell? ⟨bb,4,none⟩=some (.slice lbase ll lc):=by simp[World.cell?,hc hnx]
       have q5:wr.cell? ⟨bb,5,none⟩=some (.slice cbase cl cc):=by simp[World.cell?,hc hnx]
       have q6:wr.cell? ⟨bb,6,none⟩=some (.slice kbase kl kc):=by simp[World.cell?,hc hnx]
       have hs':=(hnx.cell (p:=⟨sb,0,none⟩) hsb).trans hs
       gi_wp2
       refine⟨trivial,(cC k hlt _ hnx).mono ?_⟩;rintro e W2 ⟨rfl,hg2⟩;obtain⟨fn,tmps,assign,body,hy,hR⟩:=hY _ (eC k) W2 (hJ _ _ _ hJs hg2) (by simp only[dw,zZ]; omega);have hb2:=bel hnx hg2
       gi_wp2
       refine hR.mono ?_;rintro e W3 (⟨rfl,hJ3,hk3⟩|⟨rfl,hJx3⟩)
       ·gi_wp2
        go_roundw
        case rel=>exact⟨k+1,by omega,by simp,by rw[qP,<-dH]; exact hJ3,hb2.trans hk3⟩
        case measure=>simp[intOf]; omega
       ·gi_wp2
        refine bodyPost_ret (results_none rfl _ _ _) rfl ?_;refine⟨⟨_,rfl⟩,.inr ⟨_,?_,hJx3⟩⟩;rw[dH,<-qP]
        exact by rw[dH]; exact(ff _).2 ((ff _).2 ((LL eC (by omega)).trans (eG _ _)))
      ·obtain rfl:cl=k:=by omega
       have hb6:wr.cell? ⟨bb,6,none⟩=some (.slice kbase kl kc):=by simp[World.cell?,hc hnx]
       gi_wp2
       gi_loopw [59] (fun i wr=>∃k:Nat,k<=kl/\i=.int .i64 k/\J ((upE eU ul++upE eL ll++upE eC cl)++upE eK k) wr/\Below n₀ W wr)
        (fun i _=>kl-(intOf i).toNat)
       case atStart=>exact⟨0,dX _,rfl,by simpa[upE] using hJs,hnx⟩
       case round =>
        clear hJs hnx;obtain⟨k,hk,rfl,hJs,hnx⟩:=hrel
        by_cases hlt:k<kl
        ·obtain⟨rfl,hlk⟩:=hkb (by omega);have hu1:=(hnx.cell (p:=⟨kb,ko+k*2,none⟩) hlk).trans (hK k hlt).1;have hu2:=(hnx.cell (p:=⟨kb,ko+k*2+1,none⟩) hlk).trans (hK k hlt).2;have ht':=(hnx.cell (p:=⟨tb,0,none⟩) htb).trans ht;have hta:∀o,(wr.alloc o).cell? ⟨tb,0,none⟩=some (.func (.func 199) #[] #[.pointer (some ⟨sb,0,none⟩)]):=fun o=>Lib.cell?_alloc_some _ ht'
         gi_wp2
         refine⟨trivial,(cK k hlt _ (bel hnx (grown_alloc _ _))).mono ?_⟩;rintro e W2 ⟨rfl,hg2⟩;obtain⟨fn,tmps,assign,body,hy,hR⟩:=hY _ (eK k) W2 (hJ _ _ _ (hJ _ _ _ hJs (grown_alloc _ _)) hg2) (by simp only[dw,zZ]; omega);have hb2:=bel (bel hnx (grown_alloc _ _)) hg2
         gi_wp2
         refine hR.mono ?_;rintro e W3 (⟨rfl,hJ3,hk3⟩|⟨rfl,hJx3⟩)
         ·gi_wp2
          go_roundw
          case rel=>exact⟨k+1,by omega,by simp,by rw[qP,<-dH]; exact hJ3,hb2.trans hk3⟩
          case measure=>simp[intOf]; omega
         ·gi_wp2
          refine bodyPost_ret (results_none rfl _ _ _) rfl ?_;refine⟨⟨_,rfl⟩,.inr ⟨_,?_,hJx3⟩⟩;rw[dH,<-qP,dH,dH];exact(ff _).2 ((ff _).2 ((ff _).2 (LL eK (by omega))))
        ·obtain rfl:kl=k:=by omega
         gi_wp2
         go_end0
         exact⟨⟨_,rfl⟩,.inl ⟨_,rfl,by simpa[dH] using hJs⟩⟩
end Go.Proofs
end

noncomputable section
set_option maxRecDepth 100000
namespace Go.Proofs.ZzM
open Go Go.Am Go.RowKit
variable [LC]
def acC (p:String):Code:=.region 10 #[{dst:=some 5,op:=.assign (.tmp 49),type:=36,pos:=p,after:=#[],guard:=none}] false
def amp (q r:String):Code:=.block 1 (.seq (.region 11 #[{dst:=some 50,op:=.move (.tmp 5),type:=36,pos:=q,after:=#[],guard:=none},{dst:=some 51,op:=.binOp .neq 36 (.tmp 50) (.const (.int .i64 0)) 36,type:=4,pos:=q,after:=#[{on:=0,ground:=.data}],guard:=none}] false)
 (.cond (.tmp 51) (.seq (.region 12 #[{dst:=some 52,op:=.move (.tmp 5),type:=36,pos:=r,after:=#[],guard:=none},{dst:=none,op:=.store 36 (.tmp 2) (.tmp 52),type:=0,pos:=r,after:=#[{on:=0,ground:=.data},{on:=0,ground:=.phase}],guard:=none}] false) .ret) .skip))
section
variable {P:Program} {F:Fence} {n:Nat}
def EJ {b:Array Oper} {i d:Nat} {o:Oper} {u:Value} {w w':World} {a:Act} {next:Act->World->Prop} {Q:Exit->Act->World->Prop} (p:∀f,F.fn f) (j:b[i]?=some o) (m:o.guard=none) (hd:o.dst=some d) (g:∀c,o.op≠.defer c)
 (e:(execOp a.eval o).run P w=.ok (.value u) w') (k:next (a.put (some d) u) w'):wpOpIn F n P b Q i next a w:=by
 unfold wpOpIn;rw[j]
 have h:Region.wanted o (yielded b a.tmps)=true:=by simp[Region.wanted,m]
 simp only[h,if_true];refine⟨fun _ _=>p _,?_⟩;rw[Oper.semAt_eq _ _ _ g,e];rw[<-hd] at k;exact k
def aeK {b:Array Oper} {i:Nat} {o:Oper} {w w':World} {a:Act} {next:Act->World->Prop} {Q:Exit->Act->World->Prop} (m:∀f,F.fn f) (h:b[i]?=some o) (j:o.guard=none) (hd:o.dst=none) (e:∀c,o.op≠.defer c)
 (d:(execOp a.eval o).run P w=.ok .skip w') (k:next a w'):wpOpIn F n P b Q i next a w:=by
 unfold wpOpIn;rw[h]
 have g:Region.wanted o (yielded b a.tmps)=true:=by simp[Region.wanted,j]
 simp only[g,if_true];refine⟨fun _ _=>m _,?_⟩;rw[Oper.semAt_eq _ _ _ e,d];show next (a.put o.dst undef) w';rw[hd];exact k
end
def jm (T:Array Value) (i j:Nat) (v:Value):(T.setIfInBounds i v).getD j undef=if i=j/\i<T.size then v else T.getD j undef:=by
 simp only[dT,eD]
 by_cases h:i=j
 ·subst h
  by_cases h2:i<T.size
  ·simp[h2]
  ·simp[h2]
 ·simp[h]
noncomputable def mark (D:Nat):Deferred:={target:=.collected D,args:=#[]}
structure Put1 (n₀ rb:Nat) (x:Int) (w W:World):Prop where
 os:W.os=w.os
 tape:W.tape=w.tape
 output:W.output=w.output
 size:w.heap.size<=W.heap.size
 block:∀k,k<n₀->k≠rb->W.heap[k]?=w.heap[k]?
 cell:∃e,W.heap[rb]?=some (.cells #[.int .i64 x] e (0,0))
set_option maxHeartbeats 4000000 in
def amW {a:Act} {w:World} {Q:Exit->Act->World->Prop} {lb:Array Value} {L:rT Int} {rb:Nat} {e0:TypeId} {v0:Value} {p q r:String}
 (R:SeqStopsK Fence.wide 1 Tryz.prog 202 lb (fun x:Int=>#[.int .i64 x]) (Below w.heap.size) (fun xs=>xs=L) (fun i=>i <+: L) L.length w)
 (hg:a.tmps.getD 48 undef=.func (.func 202) #[] lb) (h2:a.tmps.getD 2 undef=.pointer (some ⟨rb,0,none⟩)) (hsz:78<=a.tmps.size)
 (V:w.heap[rb]?=some (.cells #[v0] e0 (0,0)))
 (z:∀D W,(∀x∈L,x=0)->Below w.heap.size w W->w.heap.size<=D->W.heap[D]?=some (.deferred (some []))->Q .normal {a with defers:=mark D::a.defers} W)
 (m:∀D W x,L.find? (fun e=>e != 0)=some x->Put1 w.heap.size rb x w W->w.heap.size<=D->W.heap[D]?=some (.deferred (some []))->Q .ret {a with defers:=mark D::a.defers} W) :
 (Code.rangeFunc (.tmp 48) #[49] (acC p) (amp q r)).wpIn Fence.wide 2 Tryz.prog Q a w:=by
 have Y:∀f,Fence.wide.fn f:=fun _=>trivial;have U:=å V
 refine wpIn_rangeFunc_ownF (α:=Int) (encs:=fun x=>#[.int .i64 x]) (Kp:=Below w.heap.size) (S:=fun xs=>xs=L) (Sp:=fun i=>i <+: L) (N:=L.length) (w0:=w) rfl (by omega) hg trivial (fun args w=>?eg) R
  (fun h k=>h.trans k) (fun W l o o' hl ho hc hw=>belowK_b (du _) W l o o' hl ho hc hw) (Below.refl _ _) (fun _=>rfl)
  (fun i W=>(∀x∈i,x=0)/\Below w.heap.size w W)
  (fun c i W=>c=.ret/\∃j x,i=j++[x]/\(∀x∈j,x=0)/\x≠0/\Put1 w.heap.size rb x w W)
  ?hI ?hIx ⟨by simp,Below.refl _ _⟩ (fun x=>{tmps:=(a.tmps.setIfInBounds 49 (.int .i64 x)).setIfInBounds 5 (.int .i64 x),defers:=[]}) ?hassign ?hbody ?z ?m
 case eg=>simp[callFunc,Sem.run_bind,run_program,Result.andThen_ok,Tryz.func202,plain 202 _ Tryz.func202,show Tryz.f202.body.isNone=false from rfl]; rfl
 case hI =>
  intro s W W' row ⟨E,h2⟩ g hr;exact⟨E,g.os.trans h2.os,g.tape.trans h2.tape,g.output.trans h2.output,dG h2.size g.size,fun k A=>(g.block k (dD A h2.size) (fun e=>by have:=(hr k e.symm).1; omega)).trans (h2.block k A)⟩
 case hIx =>
  intro c s W W' row ⟨E,j,x,h3,h4,h5,C⟩ g hr;have hb:∀k,k<w.heap.size->W'.heap[k]?=W.heap[k]?:=fun k A=>g.block k (dD A C.size) (fun e=>by have:=(hr k e.symm).1; omega)
  exact⟨E,j,x,h3,h4,h5,g.os.trans C.os,g.tape.trans C.tape,g.output.trans C.output,dG C.size g.size,fun k A G=>(hb k A).trans (C.block k A G),by
   obtain⟨e,he⟩:=C.cell
   exact⟨e,(hb rb U).trans he⟩⟩
 case hassign =>
  intro l x W K hK
  have hf:((#[49]:Array Tmp).zip #[Value.int .i64 x]).foldl (fun t (p,v)=>t.setIfInBounds p v) a.tmps=a.tmps.setIfInBounds 49 (.int .i64 x):=by simp
  rw[hf];refine wpIn_region ?_;rw[show ∀o:Oper,List.range (#[o]:Array Oper).size=[0] from fun _=>rfl,wpOpsIn_cons];refine EJ (d:=5) (u:=.int .i64 x) (w':=W) Y rfl rfl rfl (by simp) ?_ hK;show Result.ok (Next.value ((a.tmps.setIfInBounds 49 (.int .i64 x)).getD 49 undef)) W=_;rw[jm,if_pos ⟨rfl,by omega⟩]
 case hbody =>
  intro l i x W ⟨E,hbel⟩ hpre;refine wpIn_block (wpIn_seq (wpIn_region ?_));rw[show ∀o p:Oper,List.range (#[o,p]:Array Oper).size=[0,1] from fun _ _=>rfl,wpOpsIn_cons]
  refine EJ (d:=50) (u:=.int .i64 x) (w':=W) Y rfl rfl rfl (by simp) (by
   show Result.ok (Next.value (((a.tmps.setIfInBounds 49 (.int .i64 x)).setIfInBounds 5 (.int .i64 x)).getD 5 undef)) W=_
   rw[jm,if_pos ⟨rfl,by simp; omega⟩]) ?_
  rw[wpOpsIn_cons]
  refine EJ (d:=51) (u:=.bool (x != 0)) (w':=W) Y rfl rfl rfl (by simp) (by
   show((do let u <-(do eqGuard .neq 36 (.tmp 50) (.const (.int .i64 0)) ((((a.tmps.setIfInBounds 49 (.int .i64 x)).setIfInBounds 5 (.int .i64 x)).setIfInBounds 50 (.int .i64 x)).getD 50 undef) (.int .i64 0); binOp .neq 36 ((((a.tmps.setIfInBounds 49 (.int .i64 x)).setIfInBounds 5 (.int .i64 x)).setIfInBounds 50 (.int .i64 x)).getD 50 undef) (.int .i64 0)); pure (.value u)):Sem Next).run Tryz.prog W=_;rw[jm,if_pos ⟨rfl,by simp; omega⟩]
   simp[eqGuard,binOp,Op.intCmp]) ?_
  show Code.wpIn (Fence.wide.inRound l) (2-1-1) Tryz.prog (Code.cond (.tmp 51) _ .skip) _ {tmps:=((((a.tmps.setIfInBounds 49 (.int .i64 x)).setIfInBounds 5 (.int .i64 x)).setIfInBounds 50 (.int .i64 x)).setIfInBounds 51 (.bool (x != 0))),defers:=[]} W;obtain⟨T,B⟩:∃T,T=((((a.tmps.setIfInBounds 49 (.int .i64 x)).setIfInBounds 5 (.int .i64 x)).setIfInBounds 50 (.int .i64 x)).setIfInBounds 51 (.bool (x != 0))):=⟨_,rfl⟩;rw[<-B]
  have M:T.getD 51 undef=.bool (x != 0):=by rw[B,jm,if_pos ⟨rfl,by simp; omega⟩]
  have t5:T.getD 5 undef=.int .i64 x:=by rw[B,jm,if_neg (by simp),jm,if_neg (by simp),jm,if_pos ⟨rfl,by simp; omega⟩]
  have t2:T.getD 2 undef=.pointer (some ⟨rb,0,none⟩):=by rw[B,jm,if_neg (by simp),jm,if_neg (by simp),jm,if_neg (by simp),jm,if_neg (by simp),h2]
  have tsz:78<=T.size:=by rw[B]; simpa using hsz
  clear B
  by_cases Z:x=0
  ·have J:Act.eval {tmps:=T,defers:=[]} (.tmp 51)=.bool false:=M.trans (by simp[Z]);refine wpIn_cond_false J (wpIn_skip ?_);simp only[Exit.inBlock,ownPostK];exact⟨KeepsOthers.refl _,Below.refl _ _,fun y hy=>(dA.1 hy).elim (E y) (fun h=>by rw[dB] at h; rw[h,Z]),hbel⟩
  ·have J:Act.eval {tmps:=T,defers:=[]} (.tmp 51)=.bool true:=M.trans (by simp[Z]);refine wpIn_cond_true J (wpIn_seq (wpIn_region ?_));rw[show ∀o p:Oper,List.range (#[o,p]:Array Oper).size=[0,1] from fun _ _=>rfl,wpOpsIn_cons]
   have e5:(execOp (Act.eval {tmps:=T,defers:=[]}) {dst:=some 52,op:=.move (.tmp 5),type:=36,pos:=r,after:=#[],guard:=none}).run Tryz.prog W=.ok (.value (.int .i64 x)) W:=by
    show Result.ok (Next.value (T.getD 5 undef)) W=_;rw[t5]
   refine EJ (d:=52) (u:=.int .i64 x) (w':=W) Y rfl rfl rfl (by simp) e5 ?_;rw[wpOpsIn_cons];have hW:W.heap[rb]?=some (.cells #[v0] e0 (0,0)):=(hbel.block rb U).trans V
   letI:Ghost:=(Gk (fun _=>False) [] (none))
   have hst:=xu (P:=Tryz.prog) (w:=W) (t:=36) (u:=.int .i64 x) (n:=1) (b:=rb) (o:=0) (by kernel_rfl) rfl hW (by simp) (by simp[Value.cells,Value.oneCell'])
   have O:(storeVar 36 ⟨rb,0,none⟩ (.int .i64 x)).run Tryz.prog W=.ok () (W.setRow rb #[.int .i64 x]):=by simpa[Value.cells] using hst
   have t52:(T.setIfInBounds 52 (.int .i64 x)).getD 52 undef=.int .i64 x:=by rw[jm,if_pos ⟨rfl,by omega⟩]
   have t2':(T.setIfInBounds 52 (.int .i64 x)).getD 2 undef=.pointer (some ⟨rb,0,none⟩):=by rw[jm,if_neg (by simp),t2]
   have e6:(execOp (Act.eval {tmps:=T.setIfInBounds 52 (.int .i64 x),defers:=[]}) {dst:=none,op:=.store 36 (.tmp 2) (.tmp 52),type:=0,pos:=r,after:=#[{on:=0,ground:=.data},{on:=0,ground:=.phase}],guard:=none}).run Tryz.prog W=.ok .skip (W.setRow rb #[.int .i64 x]):=by
    show((do Instr.storeAt 36 ((T.setIfInBounds 52 (.int .i64 x)).getD 2 undef) ((T.setIfInBounds 52 (.int .i64 x)).getD 52 undef); pure .skip):Sem Next).run Tryz.prog W=_;rw[t52,t2'];simp[Instr.storeAt,Instr.sureAddr,O]
   refine aeK (w':=W.setRow rb #[.int .i64 x]) Y rfl rfl rfl (by simp) e6 ?_;refine wpIn_ret ?_;simp only[Exit.inBlock,ownPostK];refine⟨⟨by simp,fun k o A ho=>?_⟩,trivial,i,x,rfl,E,Z,hbel.os,hbel.tape,hbel.output,by simpa using hbel.size,fun k A G=>(setRow_other _ _ _ _ G).trans (hbel.block k A),⟨_,setRow_heap _ _ _ _ _ _ hW⟩⟩
   by_cases X:k=rb
   ·subst X; rw[hW] at A; cases A; simp[Obj.isCells] at ho
   ·rw[setRow_other _ _ _ _ X]; exact A
 case z =>
  intro D xs W hD hS ⟨E,hbel⟩ H;subst hS;exact z D W E hbel hD H
 case m =>
  intro D c i W hD hS ⟨hc,j,x,h3,h4,h5,C⟩ H;subst hc;refine wpIn_ret (m D W x ?_ C hD H);obtain⟨t,rfl⟩:=hS;rw[h3,dH,List.find?_append]
  have:List.find? (fun e=>e != 0) j=none:=fc.2 fun y hy=>by simp[h4 y hy]
  rw[this];simp[h5]
end Go.Proofs.ZzM
end

noncomputable section
set_option maxRecDepth 100000
namespace Go.Proofs.ZzM
open Go Go.Am Go.RowKit
variable [LC]
noncomputable def fstC:Code->Code
 |.seq a _=>a
 |c=>c
noncomputable def sndC:Code->Code
 |.seq _ b=>b
 |c=>c
noncomputable def ahl:Nat->Code->Code
 |0,c=>fstC c
 |n+1,c=>ahl n (sndC c)
noncomputable def aly:Nat->Code->Code
 |0,c=>c
 |n+1,c=>aly n (sndC c)
noncomputable def ckB:Code:=Tryz.f54.body.getD .skip
noncomputable def ckA5:Code:=fstC (aly 5 ckB |> fstC)
noncomputable def ckRF:Code:=sndC (aly 5 ckB |> fstC)
noncomputable def UI:Code:=sndC (aly 5 ckB)
noncomputable def ckPre:Code:=.seq (ahl 0 ckB) (.seq (ahl 1 ckB) (.seq (ahl 2 ckB) (.seq (ahl 3 ckB) (.seq (ahl 4 ckB) ckA5))))
def amE:Tryz.f54.body=some (.seq (ahl 0 ckB) (.seq (ahl 1 ckB) (.seq (ahl 2 ckB) (.seq (ahl 3 ckB) (.seq (ahl 4 ckB) (.seq (.seq ckA5 ckRF) UI)))))):=by kernel_rfl
noncomputable def ck_pt:rT (Nat×ì):=[(118,EH),(116,vc),(114,tg),(115,xI)]
noncomputable def ckE (ρ:Type):Env ρ:=Ö ck_pt []
abbrev ckR:Type:=Int ⊕ (rT AV×rT Blk)
noncomputable def ai1 (S:St):rF Int:=match mQ Tryz.prog Tryz.f54 S with
 |some v=>amY [tI] S.h v
 |none=>none
noncomputable def ckK (e:Exit) (S:St):rF ckR:=match e with
 |.ret=>match ai1 S with
  |some n=>some (.inl n)
  |none=>none
 |.normal=>match decide (78<=S.t.length) with
  |true=>some (.inr ([lk S.t 1,lk S.t 2,lk S.t 48],S.h))
  |false=>none
 |_=>none
noncomputable def ckH (x:bA) (s:gf) (n:Int):rT Blk :=
 [.cells (flat È x),.cells [.int .i64 n],.cells (flat È x),.cells [.mp tI Ú s],.cells [.fn (.func 199) [] [.box 3 0]]]
noncomputable def ckM (x:bA):rF ckR :=
 Â (Ū x.1 (0:Int) (1000000:Int)) fun r1=>ifb (!r1) (some (.inl 1)) (ifb (igt (Ó x.2.1) (12:Int)) (some (.inl 2)) (ifb (igt (Ó x.2.2.1) (40:Int)) (some (.inl 2)) (ifb (igt (Ó x.2.2.2.1) (12:Int)) (some (.inl 2)) (ifb (igt (Ó x.2.2.2.2.1) (40:Int)) (some (.inl 2)) (ifb (igt (Ó x.2.2.2.2.2) (10:Int)) (some (.inl 2))
  (Â (Ś x) fun r2=>ifb (ine r2 (0:Int)) (some (.inl r2)) (Â (ģ x) fun a=>some (.inr ([.box 0 0,.box 1 0,.fn (.func 202) [] [.box 2 0,.box 4 0,.box 3 0]],ckH x a 0)))))))))
def ck_pre (x:bA):goC (ckE ckR) (Ğ (ckE ckR) 10) 54 [] 0 0 ckPre {t:=abK [È] x++List.replicate 77 .any,h:=[]} ckK=ckM x:=by kernel_rfl
noncomputable def alE (ρ:Type):Env ρ:={ckE ρ with inl:=fun _=>false}
noncomputable def ckS (x:bA):rF Int :=
 Â (qy x) fun c=>ifb (igt (Ó c) (59:Int)) (some (2:Int)) (ck ((2:Int)*(Ó x.2.1)) fun n6=>ck ((Ó c)-(Ó x.2.1)) fun f=>ck ((2:Int)*f) fun e=>ck (n6+e) fun d=>ck ((2:Int)*(Ó x.2.2.2.2.1)) fun b=>ck (d+b) fun a=>ifb (igt a (300:Int)) (some (2:Int)) (some (0:Int)))
noncomputable def ckK2 (e:Exit) (S:St):rF Int:=match e with
 |.ret=>match lk S.t 2 with
  |.box 1 0=>match lkB S.h 1 with
   |.cells [.int .i64 n]=>some n
   |_=>none
  |_=>none
 |_=>none
def ck_suf (x:bA) (s:gf):goC (alE Int) (Ğ (alE Int) 10) 54 [] 0 0 UI {t:=[.any,.box 0 0,.box 1 0]++List.replicate 75 .any,h:=ckH x s 0} ckK2=ckS x:=by kernel_rfl
def alD (x:bA):ē x=match ckM x with
 |none=>none
 |some (.inl n)=>some n
 |some (.inr _)=>Â (ģ x) fun s=>XE (nN x s) some (ckS x):=by
 unfold ē PD ckM ckS
 cases Ū x.1 (0:Int) (1000000:Int) with
 |none=>rfl
 |some r1 =>
 cases r1 with
 |false=>rfl
 |true =>
 simp only[Â,ifb,eo]
 cases igt (Ó x.2.1) (12:Int) with
 |true=>rfl
 |false =>
 cases igt (Ó x.2.2.1) (40:Int) with
 |true=>rfl
 |false =>
 cases igt (Ó x.2.2.2.1) (12:Int) with
 |true=>rfl
 |false =>
 cases igt (Ó x.2.2.2.2.1) (40:Int) with
 |true=>rfl
 |false =>
 cases igt (Ó x.2.2.2.2.2) (10:Int) with
 |true=>rfl
 |false =>
 cases Ś x with
 |none=>rfl
 |some r2 =>
 simp only
 cases ine r2 (0:Int) with
 |true=>rfl
 |false =>
 cases ģ x with
 |none=>rfl
 |some a=>rfl
def anX {x:bA} {q:rT AV×rT Blk} (h:ckM x=some (.inr q)):((x.2.2.1:rT bx).length<=1000/\(x.2.2.2.1:rT qs).length<=1000/\(x.2.2.2.2.1:rT fx).length<=1000/\(x.2.2.2.2.2:rT bx).length<=1000) /\
 ∃s,ģ x=some s/\q=([.box 0 0,.box 1 0,.fn (.func 202) [] [.box 2 0,.box 4 0,.box 3 0]],ckH x s 0):=by
 unfold ckM at h
 cases h0:Ū x.1 (0:Int) (1000000:Int) with
 |none=>rw[h0] at h; cases h
 |some r1 =>
 rw[h0] at h
 cases r1 with
 |false=>cases h
 |true =>
 simp only[Â,ifb,eo] at h
 cases i:igt (Ó x.2.1) (12:Int) with
 |true=>rw[i] at h; cases h
 |false =>
 rw[i] at h
 cases h2:igt (Ó x.2.2.1) (40:Int) with
 |true=>rw[h2] at h; cases h
 |false =>
 rw[h2] at h
 cases d:igt (Ó x.2.2.2.1) (12:Int) with
 |true=>rw[d] at h; cases h
 |false =>
 rw[d] at h
 cases c:igt (Ó x.2.2.2.2.1) (40:Int) with
 |true=>rw[c] at h; cases h
 |false =>
 rw[c] at h
 cases b:igt (Ó x.2.2.2.2.2) (10:Int) with
 |true=>rw[b] at h; cases h
 |false =>
 rw[b] at h
 cases g:Ś x with
 |none=>rw[g] at h; cases h
 |some r2 =>
 rw[g] at h;simp only at h
 cases f:ine r2 (0:Int) with
 |true=>rw[f] at h; cases h
 |false =>
 rw[f] at h
 cases e:ģ x with
 |none=>rw[e] at h; cases h
 |some j =>
 rw[e] at h
 have a:∀{α:Type} (l:rT α) (n:Nat),igt (Ó l) (n:Int)=false->l.length<=n:=by
  intro α l n h;unfold Ó at h;rw[ln] at h;simp only[igt,gt_iff_lt,decide_eq_false_iff_not] at h;omega
 simp only[Option.some.injEq,Sum.inr.injEq] at h;exact⟨⟨by have:=a x.2.2.1 40 h2; omega,by have:=a x.2.2.2.1 12 d; omega,by have:=a x.2.2.2.2.1 40 c; omega,by have:=a x.2.2.2.2.2 10 b; omega⟩,j,rfl,h.symm⟩
def EQ {α β:Type} {f:α->rF β}:∀{l:rT α} {m:rT β},M6 f l=some m->m.length=l.length/\∀(i:Nat) (a:α),l[i]?=some a->∃b,m[i]?=some b/\f a=some b
 |[],m,h=>by cases h; exact⟨rfl,fun i a ha=>by simp at ha⟩
 |a::l,m,h=>by
  unfold M6 at h
  cases ha:f a with
  |none=>rw[ha] at h; cases h
  |some b =>
   rw[ha] at h
   cases d:M6 f l with
   |none=>rw[d] at h; cases h
   |some j =>
    rw[d] at h;cases h;obtain⟨g,h2⟩:=EQ d;refine⟨by simp[g],fun i c e=>?_⟩
    cases i with
    |zero=>simp at e; subst e; exact⟨b,by simp,ha⟩
    |succ i=>simpa using h2 i c (by simpa using e)
def LM (l:rT Int):upE (fun j=>l[j]?.getD 0) l.length=l:=by
 unfold upE;refine List.ext_getElem (by simp) fun i a h2=>?_;simp at a;simp[a]
def CR.below {a:Nat} {w W:World} {av:Nat->Prop} (hb:Below a w W) (d:w.heap.size<=a) {t:Ty} {x:Val t} {vs:rT Value} (h:CR w av t x vs):CR W av t x vs :=
 h.keep fun b c ha=>⟨hb.block b (dD c d),ha⟩
def Mz {w:World} {av:Nat->Prop} {xs:rT (Int×Int)} {v:Value} (h:CR w av (.slice Æ) xs [v]):∃base cap b off,v=.slice base xs.length cap/\(0<xs.length->base=some ⟨b,off,none⟩/\b<w.heap.size) /\
 ∀j,j<xs.length->w.cell? ⟨b,off+j*2,none⟩=some (.int .i64 (xs[j]?.getD (0,0)).1)/\w.cell? ⟨b,off+j*2+1,none⟩=some (.int .i64 (xs[j]?.getD (0,0)).2):=by
 obtain⟨base,cap,e,u,a⟩:=h;cases e;rcases a with a|⟨b,off,hb,g,d,a⟩
 ·refine⟨base,cap,0,0,rfl,fun h=>?_,fun j c=>?_⟩
  ·rw[show xs=[] from a] at h; simp at h
  ·rw[show xs=[] from a] at c; simp at c
 ·refine⟨base,cap,b,off,rfl,fun _=>⟨hb,d⟩,fun j c=>?_⟩;obtain⟨us,m,h2⟩:=a j xs[j] (dv c);obtain⟨u1,f,q,k,i⟩:=m;have p:u1=[.int .i64 xs[j].1]:=k;have o:f=[.int .i64 xs[j].2]:=i;subst p o q;have s:(Æ).size=2:=rfl;rw[s] at h2;have t:=h2 0 _ rfl;have r:=h2 1 _ rfl;rw[dv c];exact⟨by simpa using t,by simpa[Nat.add_assoc] using r⟩
end Go.Proofs.ZzM
end

noncomputable section
set_option maxRecDepth 100000
namespace Go.Proofs.ZzM
open Go Go.Am Go.RowKit
variable [LC]
section
variable {w W W':World}
abbrev noG:Nat->Prop:=fun _=>False
def int_arg (w:World) (n:Int):θ w noG tI n (.int .i64 n):=⟨[.int .i64 n],rfl,rfl⟩
def anr {a:Nat} {b:Value} {e:TypeId} {s:gf} (h:w.heap[a]?=some (.cells #[b] e (0,0))) (c:CR w noG (.map tI Ú) s [b]):θ w noG (.ptr (.map tI Ú)) s (.pointer (some ⟨a,0,none⟩)):=by
 letI:Ghost:=(Gk (fun _=>False) [] (none))
 exact⟨[.pointer (some ⟨a,0,none⟩)],⟨a,0,[b],rfl,id,å h,c,CellsAt.of_cells h⟩,rfl⟩
def amX {y:Int} {u:Value} (h:RR w noG [tI] y u):u=.int .i64 y:=by
 obtain⟨us,a,rfl⟩:=h;have:us=[.int .i64 y]:=a;rw[this]; rfl
def alo (e:∀b,b<W.heap.size->W'.heap[b]?=W.heap[b]?) (h2:W.heap.size<=W'.heap.size) (d:W'.os=W.os) (c:W'.tape=W.tape) (a:W'.output=W.output):W.grownBy W' none :=
 ⟨d,c,a,h2,fun b hb _=>e b hb⟩
def WI {f:Nat} {p:ì} (b:Globs.Φ W) (g:Ķ Tryz.prog f p) (a:p.rs=[tI]) {x:Val (tyL p.ts)} {y:Int} (d:p.F x=some (a▸(show Val (tyL [tI]) from y))) {vals:rT Value} (ha:AL W noG p.ts x vals) :
 CallsIn Fence.wide 0 Tryz.prog f vals.toArray W fun e c=>e=.returned (.int .i64 y)/\W.grownBy c none:=by
 obtain⟨ts,rs,F⟩:=p;dsimp only at a d ha x;subst a;refine(g noG x y d W vals (fun _ h=>h.elim) b ha).2.mono fun e w' ⟨u,h0,o,h2,m,k,j,i⟩=>⟨?_,alo h2 m k j i⟩;rw[h0,amX o]
noncomputable def L6 {k:Nat} (h:Globs.Φ w) (hb:Below k w W) (c:w.heap.size<=k):Globs.Φ W :=
 Globs.keep w W h fun b a=>hb.block b (dD (by obtain⟨o,d,_⟩:=Globs.dat w h b a; exact å d) c)
def Xb (d:Globs.Φ W) {s:gf} {a b y:Int} (j:Ĥ a b s=some y) {c:Nat} {g:Value} {e:TypeId} (h:W.heap[c]?=some (.cells #[g] e (0,0))) (i:CR W noG (.map tI Ú) s [g]) :
 CallsIn Fence.wide 0 Tryz.prog 199 #[.int .i64 a,.int .i64 b,.pointer (some ⟨c,0,none⟩)] W fun e f=>e=.returned (.int .i64 y)/\W.grownBy f none :=
 WI d ab0 rfl (x:=(a,b,s)) (y:=y) j (vals:=[.int .i64 a,.int .i64 b,.pointer (some ⟨c,0,none⟩)]) ⟨_,_,rfl,int_arg _ _,_,_,rfl,int_arg _ _,_,rfl,anr h i⟩
def ahx {a:Value} {s:gf} (b:CR W noG (.map tI Ú) s [a]):θ W noG (.map tI Ú) s a:=⟨[a],b,rfl⟩
def ad7 {x:bA} {cs:Array Value} (hb:CR W noG È x cs.toList):θ W noG È x (.agg cs):=⟨cs.toList,hb,by show Value.agg cs=Value.agg cs.toList.toArray; rw[Array.toArray_toList]⟩
def ah6 (b:Globs.Φ W) {x:bA} {s:gf} {i y:Int} (f:Ų x s i=some y) {a:Value} {cs:Array Value} (hb:CR W noG È x cs.toList) (d:CR W noG (.map tI Ú) s [a]) :
 CallsIn Fence.wide 0 Tryz.prog 203 #[.agg cs,a,.int .i64 i] W fun e c=>e=.returned (.int .i64 y)/\W.grownBy c none :=
 WI b WQ rfl (x:=(x,s,i)) (y:=y) f (vals:=[.agg cs,a,.int .i64 i]) ⟨_,_,rfl,ad7 hb,_,_,rfl,ahx d,_,rfl,int_arg _ _⟩
def Z3 (b:Globs.Φ W) {x:bA} {s:gf} {i y:Int} (f:ĩ x s i=some y) {a:Value} {cs:Array Value} (hb:CR W noG È x cs.toList) (d:CR W noG (.map tI Ú) s [a]) :
 CallsIn Fence.wide 0 Tryz.prog 204 #[.agg cs,a,.int .i64 i] W fun e c=>e=.returned (.int .i64 y)/\W.grownBy c none :=
 WI b LH rfl (x:=(x,s,i)) (y:=y) f (vals:=[.agg cs,a,.int .i64 i]) ⟨_,_,rfl,ad7 hb,_,_,rfl,ahx d,_,rfl,int_arg _ _⟩
end
def pI {w:World} {av:Nat->Prop} {t:Ty} {xs:rT (Val t)} {vs:rT Value} (h:CR w av (.slice t) xs vs):∃base cap,vs=[.slice base xs.length cap]:=by
 obtain⟨base,cap,e,_⟩:=h;exact⟨base,cap,e⟩
def akB {w:World} (B:Globs.Φ w) {x:bA} {s:gf} {G A z E:rT Int} (h1:M6 (fun u=>Ĥ u.1 u.2 s) (x.2.2.1:rT (Int×Int))=some G) (h2:M6 (fun i=>Ų x s i) (xl (x.2.2.2.1:rT qs).length)=some A)
 (h3:M6 (fun i=>ĩ x s i) (xl (x.2.2.2.2.1:rT fx).length)=some z) (h4:M6 (fun u=>Ĥ u.1 u.2 s) (x.2.2.2.2.2:rT (Int×Int))=some E)
 (q:(x.2.2.1:rT bx).length<=1000/\(x.2.2.2.1:rT qs).length<=1000/\(x.2.2.2.2.1:rT fx).length<=1000/\(x.2.2.2.2.2:rT bx).length<=1000)
 {bb tb S:Nat} {te te2 te3:TypeId} {cb:Array Value} {mv:Value} (hbb:w.heap[bb]?=some (.cells cb te (0,0))) (O:CR w noG È x cb.toList) (htb:w.heap[tb]?=some (.cells #[.func (.func 199) #[] #[.pointer (some ⟨S,0,none⟩)]] te2 (0,0)))
 (C:w.heap[S]?=some (.cells #[mv] te3 (0,0))) (D:CR w noG (.map tI Ú) s [mv]) :
 SeqStopsK Fence.wide 1 Tryz.prog 202 #[.pointer (some ⟨bb,0,none⟩),.pointer (some ⟨tb,0,none⟩),.pointer (some ⟨S,0,none⟩)] (fun x:Int=>#[.int .i64 x]) (Below w.heap.size) (fun xs=>xs=G++(A++(z++E))) (fun m=>m <+: (G++(A++(z++E)))) (G++(A++(z++E))).length w:=by
 intro l J Jx W d hJ hJx hY h0;obtain⟨fl,r0,e0,hfl,hr0⟩:=id O;obtain⟨ga,r1,e1,hga,hr1⟩:=hr0;obtain⟨us,r2,e2,H,hr2⟩:=hr1;obtain⟨lo,r3,e3,hlo,hr3⟩:=hr2;obtain⟨co,ko,e4,hco,L⟩:=hr3;obtain⟨f1,f2,e5,hf1,hf2⟩:=hfl;have e6:f1=[.int .i64 x.1.1]:=hf1;have e7:f2=[.int .i64 x.1.2]:=hf2;obtain⟨gab,gac,e8⟩:=pI hga;obtain⟨X,V,e9⟩:=pI hlo;obtain⟨cob,coc,e10⟩:=pI hco;obtain⟨usb0,usc0,R⟩:=pI H;obtain⟨kob0,koc0,Q⟩:=pI L;rw[R] at H;rw[Q] at L;obtain⟨U,T,ub,uo,e13,K,hU⟩:=Mz H;obtain⟨Z,Y,kb,kof,e14,M,hK⟩:=Mz L;rw[e13] at R;rw[e14] at Q
 have N:cb=#[.int .i64 x.1.1,.int .i64 x.1.2,.slice gab (x.2.1:rT kf).length gac,.slice U (x.2.2.1:rT bx).length T,.slice X (x.2.2.2.1:rT qs).length V,.slice cob (x.2.2.2.2.1:rT fx).length coc,.slice Z (x.2.2.2.2.2:rT bx).length Y]:=by
  rw[<-d9,e0,e1,e2,e3,e4,e5,e6,e7,e8,e9,e10,R,Q];rfl
 obtain⟨g1,q1⟩:=EQ h1;obtain⟨g2,q2⟩:=EQ h2;obtain⟨g3,q3⟩:=EQ h3;obtain⟨g4,q4⟩:=EQ h4
 have gl2:A.length=(x.2.2.2.1:rT qs).length:=by rw[g2]; simp[xl]
 have gl3:z.length=(x.2.2.2.2.1:rT fx).length:=by rw[g3]; simp[xl]
 have up1:upE (fun j=>G[j]?.getD 0) (x.2.2.1:rT bx).length=G:=by rw[<-g1]; exact LM G
 have up2:upE (fun j=>A[j]?.getD 0) (x.2.2.2.1:rT qs).length=A:=by rw[<-gl2]; exact LM A
 have up3:upE (fun j=>z[j]?.getD 0) (x.2.2.2.2.1:rT fx).length=z:=by rw[<-gl3]; exact LM z
 have up4:upE (fun j=>E[j]?.getD 0) (x.2.2.2.2.2:rT bx).length=E:=by rw[<-g4]; exact LM E
 have at1:∀{xs:rT (Int×Int)} {t:rT Int},(∀(i:Nat) (a:Int×Int),xs[i]?=some a->∃b,t[i]?=some b/\Ĥ a.1 a.2 s=some b)->∀j,j<xs.length->Ĥ (xs[j]?.getD (0,0)).1 (xs[j]?.getD (0,0)).2 s=some (t[j]?.getD 0):=by
  intro xs t hq j k;obtain⟨b,hb,hf⟩:=hq j xs[j] (dv k);rw[dv k,hb];exact hf
 have at2:∀{n:Nat} {t:rT Int} {f:Int->rF Int},(∀(i:Nat) (a:Int),(xl n)[i]?=some a->∃b,t[i]?=some b/\f a=some b)->∀j,j<n->f (j:Int)=some (t[j]?.getD 0):=by
  intro n t f hq j k;obtain⟨b,hb,hf⟩:=hq j j (by simp[xl,k]);rw[hb]; exact hf
 have c:∀{W':World},Below w.heap.size W W'->Below w.heap.size w W':=fun h=>d.trans h;have g:∀{W':World} {p:Addr} {v:Value},Below w.heap.size w W'->w.cell? p=some v->p.block<w.heap.size->W'.cell? p=some v:=fun {W'} {p} {v} h hc hp=>(h.cell (p:=p) hp).trans hc;have lb:=å hbb;have lt:=å htb;have t:=å C
 have:=akM te 1 (by omega) l w.heap.size bb tb S (.int .i64 x.1.1) (.int .i64 x.1.2) (.slice gab (x.2.1:rT kf).length gac) mv lb lt t
  ub uo (x.2.2.1:rT bx).length T kb kof (x.2.2.2.2.2:rT bx).length Y U Z X cob (x.2.2.2.1:rT qs).length V (x.2.2.2.2.1:rT fx).length coc K M
  (fun j=>(x.2.2.1:rT (Int×Int))[j]?.getD (0,0)) (fun j=>(x.2.2.2.2.2:rT (Int×Int))[j]?.getD (0,0)) (fun j=>G[j]?.getD 0) (fun j=>A[j]?.getD 0) (fun j=>z[j]?.getD 0) (fun j=>E[j]?.getD 0)
  q.1 q.2.1 q.2.2.1 q.2.2.2 W ((d.block bb lb).trans (by rw[hbb,N])) (g d (by simp[World.cell?,htb]) lt) (g d (by simp[World.cell?,C]) t)
  (fun j k=>⟨g d (hU j k).1 (K (by omega)).2,g d (hU j k).2 (K (by omega)).2⟩) (fun j k=>⟨g d (hK j k).1 (M (by omega)).2,g d (hK j k).2 (M (by omega)).2⟩)
  (fun j k W' o=>Xb (L6 B (c o) (du _)) (at1 q1 j k) (((c o).block S t).trans C) (CR.below (c o) (du _) D))
  (fun j k W' o=>Xb (L6 B (c o) (du _)) (at1 q4 j k) (((c o).block S t).trans C) (CR.below (c o) (du _) D))
  (fun j k W' o=>ah6 (L6 B (c o) (du _)) (at2 q2 j k) (by have:=CR.below (c o) (du _) O; rwa [N] at this) (CR.below (c o) (du _) D))
  (fun j k W' o=>Z3 (L6 B (c o) (du _)) (at2 q3 j k) (by have:=CR.below (c o) (du _) O; rwa [N] at this) (CR.below (c o) (du _) D))
  J Jx (fun m W1 W2 k hg=>hJ m W1 W2 none k hg (fun r e=>by cases e)) (fun m W1 W2 k hg=>hJx m W1 W2 none k hg (fun r e=>by cases e))
  (fun m y W1 k hl=>hY m y W1 k (by simp only[dw]; omega)) h0 d.size
 rw[up1,up2,up3,up4] at this;exact this
end Go.Proofs.ZzM
end

noncomputable section
set_option maxRecDepth 100000
namespace Go.Proofs.ZzM
open Go Go.Am Go.RowKit
variable [LC]
section
variable [Ghost] {ρ:Type} {ν:Nat->Value} {w:World}
def peel (k:Ghost.Q=none) {E:Env ρ} {call:rT Nat->Bool->Nat->rT AV->rT Blk->(AV->rT Blk->rF ρ)->rF ρ} {L:Nat} (s:jM E L call) (t:qB E L call) (p:E.joins=fun _ _ _ _=>none) {fid:Nat} {path:rT Nat} (m:path.length+2=L) {x y c:Code} {bid n:Nat} {S:St} {K:Exit->St->rF ρ} {r:ρ} {a:Act} {Q:Exit->Act->World->Prop}
 (q:∀z∈Ø bid x,kT E path fid z.1 z.2) (e:goC E call fid path 0 bid (.seq x y) S K=some r) (H:Sim ν S a w)
 (o:∀ν' b d w',Sim ν' b d w'->Ev 0 ν S.h w ν' b.h w'->goC E call fid path 0 bid y b K=some r->c.wpIn Fence.wide n E.P Q d w')
 (i:∀ν' b d w' e,e≠.normal->Sim ν' b d w'->Ev 0 ν S.h w ν' b.h w'->K e b=some r->Q e d w'):(Code.seq x c).wpIn Fence.wide n E.P Q a w:=by
 simp only[goC,p] at e;have j:=qr s t m x bid S _ ν a w q e H (dX _);rw[Wy k] at j;refine wpIn_seq (wpIn_wide.2 (wpIn_wide.1 (wpIn_mono j fun u d w' ha=>?_)));obtain⟨ν',b,g,h2,A,v,f⟩:=ha
 cases u with
 |normal=>exact o ν' b d w' g h2 f
 |exit id=>exact i ν' b d w' _ (by simp) g h2 f
 |goto l=>exact i ν' b d w' _ (by simp) g h2 f
 |ret=>exact i ν' b d w' _ (by simp) g h2 f
 |panic ch=>exact i ν' b d w' _ (by simp) g h2 f
 |outgrown=>exact i ν' b d w' _ (by simp) g h2 f
end
def agP {T:Array Value} {rb:Nat} {n:Int} {e:TypeId} {W:World} (h2:T.getD 2 undef=.pointer (some ⟨rb,0,none⟩)) (f:W.heap[rb]?=some (.cells #[.int .i64 n] e (0,0))):(results Tryz.f54 T).run Tryz.prog W=.ok (.int .i64 n) W:=by
 letI:Ghost:=(Gk (fun _=>False) [] (none))
 have d:(loadVar 36 ⟨rb,0,none⟩).run Tryz.prog W=.ok (.int .i64 n) W:=by
  have:=run_loadVar (P:=Tryz.prog) (w:=W) (t:=36) (agg:=false) (n:=1) (by kernel_rfl) (us:=[.int .i64 n]) rfl (fun _=>rfl) (a:=⟨rb,0,none⟩) (fun j v b=>by
   have:=CellsAt.of_cells f j v (by simpa using b)
   cases j with
   |zero=>simpa[Addr.add] using this
   |succ j=>simp at b)
  exact this
 have c:Tryz.f54.results=#[.cell 2 36]:=by kernel_rfl
 unfold results;rw[c,Array.mapM_eq_mapM_toList];simp only[Sem.run_bind,Sem.run_map,List.mapM_cons,List.mapM_nil,h2,asAddr,Sem.run_pure,Result.andThen_ok,d];rfl
@[reducible] noncomputable def gck (G:Nat->Prop) (M:Nat):Ghost:=(Gh G).re G [] none M
def an4 [Ghost] {ν:Nat->Value} {h:rT Blk} {w:World} {x:bA} {us:rT Value} (a:ÿ (VRc ν h w) (flat È x) us):CR w noG È x us:=by
 have e:Ü È (flat È x)=some x:=rfl;have h2:ÿ (VRs w (Av ν h)) (flat È x) us:=a.mono fun c u b=>b.1.data;exact CR.mono (fun _ d=>d.elim) (ċ e h2)
def C2 (G:Nat->Prop) (y:Int) (w:World) (e:Ending) (w':World):Prop :=
 ∃u,e=.returned u/\RR w' G [tI] y u/\(∀b,b<w.heap.size->w'.heap[b]?=w.heap[b]?)/\w.heap.size<=w'.heap.size/\w'.os=w.os/\w'.tape=w.tape/\w'.output=w.output
def adX {G:Nat->Prop} {y:Int} {w0 w:World} {a:Act} {ms:rT Nat} {rb:Nat} {e:TypeId} (hd:a.defers=ms.map mk1) (r:ms.Nodup) (i:∀k∈ms,w.heap[k]?=some (.deferred (some []))/\w0.heap.size<=k) (h2:a.tmps.getD 2 undef=.pointer (some ⟨rb,0,none⟩)) (g:w.heap[rb]?=some (.cells #[.int .i64 y] e (0,0)))
 (hb:∀b,b<w0.heap.size->w.heap[b]?=w0.heap[b]?) (c:w0.heap.size<=w.heap.size) (x:w.os=w0.os) (v:w.tape=w0.tape) (u:w.output=w0.output):LeavesInM Fence.wide 2 Tryz.prog Tryz.f54 a.tmps (C2 G y w0) a.defers .returning w:=by
 rw[hd]
 have d:rb∉ms:=fun h=>by rw[(i rb h).1] at g; cases g
 refine nM ms w r (fun k t=>(i k t).1) fun z q p o m j=>?_;exact⟨.int .i64 y,agP h2 ((j rb d).trans g),.int .i64 y,rfl,⟨[.int .i64 y],rfl,rfl⟩,fun b f=>(j b fun s=>by have:=(i b s).2; omega).trans (hb b f),by rw[q]; exact c,p.trans x,o.trans v,m.trans u⟩
def anY (S:St):ckK .ret S=(ai1 S).map .inl:=by
 unfold ckK
 cases ai1 S<;>rfl
def afN (S:St):ckK .normal S=if decide (78<=S.t.length)=true then some (.inr ([lk S.t 1,lk S.t 2,lk S.t 48],S.h)) else none:=by
 unfold ckK
 cases decide (78<=S.t.length)<;>rfl
def kz [Ghost] {ρ:Type} {E:Env ρ} (h0:E.loops=Ε []) (c:E.ranges=fun _ _ _ _ _ _ _=>none) {path:rT Nat} {fid bid:Nat} {b:LI}:kT E path fid bid b:=by
 cases b with
 |lp b=>exact fun m S K r ν a w e=>by rw[h0] at e; cases e
 |rf g ps x y=>exact fun m S K r ν a w e=>by rw[c] at e; cases e
def amD {ρ:Type} (E:Env ρ) (e:E.P.follows .mixedOrders=true) (a:∀[Ghost],Γ E->Bm E) (h0:E.loops=Ε []) (g:E.ranges=fun _ _ _ _ _ _ _=>none) (d:E.yld=none) [Ghost]:jM E 2 (Ğ E 10) :=
 mG a (fun L call b=>iZ e L call b) (fun n h b _ _ path f fn c _ _ _ z _=>kz h0 g) 10 (du _) (ŝ d)
noncomputable def am2:Code->String
 | .region _ ops _ => ((ops[0]?).map fun o => o.pos).getD ""
 | _ => ""
noncomputable def rfA:Code->Code
 |.block _ (.rangeFunc _ _ a _)=>a
 |_=>.skip
noncomputable def rfB:Code->Code
 |.block _ (.rangeFunc _ _ _ (.block _ (.seq a _)))=>a
 |_=>.skip
noncomputable def rfC:Code->Code
 |.block _ (.rangeFunc _ _ _ (.block _ (.seq _ (.cond _ (.seq a _) _))))=>a
 |_=>.skip
def anW:ckRF=Code.block 0 (Code.rangeFunc (.tmp 48) #[49] (acC (am2 (rfA ckRF))) (amp (am2 (rfB ckRF)) (am2 (rfC ckRF)))):=by kernel_rfl
def amC:∀e∈ck_pt,Ķ Tryz.prog e.1 e.2:=À QF (À Ea (À AY (À QG Ã)))
def ai2 {e:Exit} {S:St} {n:Int} (h:ckK2 e S=some n):e=.ret/\lk S.t 2=.box 1 0/\lkB S.h 1=.cells [.int .i64 n]:=by
 unfold ckK2 at h
 split at h
 ·split at h
  ·rename_i h2
   split at h
   ·rename_i a;cases h;exact⟨rfl,h2,a⟩
   ·cases h
  ·cases h
 ·cases h
def Zv [Ghost] {ν:Nat->Value} {h:rT Blk} {w:World} {n:Int} {id:Nat} (H:HR ν h w) (d:lkB h id=.cells [.int .i64 n]):∃b e,ν id=.pointer (some ⟨b,0,none⟩)/\w.heap[b]?=some (.cells #[.int .i64 n] e (0,0)):=by
 have a:=H.blk id;rw[d] at a;obtain⟨b,c,e,k,h2,j⟩:=a;obtain⟨u,i,g⟩:=j.one;have f:u=.int .i64 n:=g.1;refine⟨b,e,k,?_⟩;rw[h2]
 have:c=#[.int .i64 n]:=by rw[<-d9,i,f]
 rw[this]
def I4 [Ghost] {ν:Nat->Value} {h:rT Blk} {w:World} {id off:Nat} {v:Value} {b:Nat} (a:VR ν h w (.box id off) v) (hb:ν id=.pointer (some ⟨b,0,none⟩)):v=.pointer (some ⟨b,off,none⟩):=by
 obtain⟨cs,e,d,h2,c⟩:=a;rw[hb] at h2;cases h2;exact c
def anV {G:Nat->Prop} {x:bA} {s:gf} {y:Int} (X:ckS x=some y) {ν:Nat->Value} {w0 c W:World} {a:Act} (H:@HR _ (gck G w0.heap.size) ν (ckH x s 0) c) (hb:Below c.heap.size c W) {ms:rT Nat} (hd:a.defers=ms.map mk1) (V:ms.Nodup) (D:∀k∈ms,W.heap[k]?=some (.deferred (some []))/\w0.heap.size<=k) (q:78<=a.tmps.size)
 (t1:@VR _ (gck G w0.heap.size) ν (ckH x s 0) c (.box 0 0) (a.tmps.getD 1 undef)) (t2:@VR _ (gck G w0.heap.size) ν (ckH x s 0) c (.box 1 0) (a.tmps.getD 2 undef))
 (h0:∀b,b<w0.heap.size->c.heap[b]?=w0.heap[b]?/\¬qD ν (ckH x s 0) b) (C:w0.heap.size<=c.heap.size) (r:c.os=w0.os) (Z:c.tape=w0.tape) (Y:c.output=w0.output) :
 UI.wpIn Fence.wide 2 Tryz.prog (bodyPostM Fence.wide 2 Tryz.prog Tryz.f54 (C2 G y w0)) a W:=by
 have E:∀b,qD ν (ckH x s 0) b->b<c.heap.size:=fun b K=>@HR.ltA _ (gck G w0.heap.size) _ _ _ H b (.inl K)
 have A:∃b,ν 0=.pointer (some ⟨b,0,none⟩)/\a.tmps.getD 1 undef=.pointer (some ⟨b,0,none⟩):=by
  obtain⟨cs,b,_,h2,r⟩:=t1;exact⟨b,h2,r⟩
 have v:∃b,ν 1=.pointer (some ⟨b,0,none⟩)/\a.tmps.getD 2 undef=.pointer (some ⟨b,0,none⟩):=by
  obtain⟨cs,b,_,h2,r⟩:=t2;exact⟨b,h2,r⟩
 letI:Ghost:=gck G w0.heap.size
 have H1:HR ν (ckH x s 0) c:=H;have H2:HR ν (ckH x s 0) W:=(H1.grow (fun b g=>hb.block b g) hb.size hb.os hb.tape hb.output 0).2;have j:∀L call,jM (alE Int) L call->qB (alE Int) L call:=iZ hmix;have J:(alE Int).loops=Ε []:=rfl;have f:jM (alE Int) 2 (Ğ (alE Int) 10):=amD (alE Int) hmix (fun {_} _=>xg amC (alE Int) rfl rfl rfl rfl rfl (Ē rfl) (ke rfl) (ŝ rfl)) rfl rfl rfl;have law:=ck_suf x s;rw[X] at law
 have B:Sim ν {t:=[.any,.box 0 0,.box 1 0]++List.replicate 75 .any,h:=ckH x s 0} a W:=by
  refine⟨⟨⟨ms,hd.trans (dO _).symm,V,D⟩,fun l K=>(by cases K),dX _,dG C hb.size⟩,by simpa using q,fun i=>?_,H2⟩;simp only[Uj];rcases i with _|_|_|i
  ·trivial
  ·obtain⟨b,m,d⟩:=A;exact⟨_,b,rfl,m,d⟩
  ·obtain⟨b,m,d⟩:=v;exact⟨_,b,rfl,m,d⟩
  ·trivial
 refine wpIn_wide.2 (wpIn_wide.1 (wpIn_mono (qr f (j _ _ f) rfl UI 0 _ _ ν a W (fun z _=>kz J rfl) law B (dX _)) fun e a' w' ha=>?_));obtain⟨ν',S',m,d,_,_,g5⟩:=ha;obtain⟨rfl,U,T⟩:=ai2 g5;obtain⟨rb,te,r1,r2⟩:=Zv m.heap T;have M:=m.tmps 2;rw[U] at M;have N:=I4 M r1;obtain⟨⟨O,S,R,Q⟩,_⟩:=m.defers;refine adX (w:=w') (a:=a') (G:=G) (y:=y) (w0:=w0) (rb:=rb) (S.trans (dO _)) R Q N r2 (fun b g=>?_) (by have:=d.size; have:=hb.size; omega) (d.os.trans (hb.os.trans r)) (d.tape.trans (hb.tape.trans Z)) (d.output.trans (hb.output.trans Y));have u:=h0 b g
 have p:b<c.heap.size:=by omega
 have o:b<W.heap.size:=by have:=hb.size; omega
 exact(d.keep b o u.2).1.trans ((hb.block b p).trans u.1)
set_option maxHeartbeats 2000000 in
def afO (G:Nat->Prop) (x:bA) (y:Int) (r:ē x=some y) (w:World) (vals:rT Value) (hG:∀b,G b->b<w.heap.size) (hΦ:Globs.Φ w) (hAL:AL w G [È] x vals) :
 (∃fn c,Tryz.prog.funcs[54]?=some fn/\fn.body=some c)/\CallsIn Fence.wide 0 Tryz.prog 54 vals.toArray w (C2 G y w):=by
 rw[alD] at r
 letI:Ghost:=gck G w.heap.size
 have hpt:=amC;have hdraw:∀L call,jM (ckE ckR) L call->qB (ckE ckR) L call:=iZ hmix;have h0:(ckE ckR).loops=Ε []:=rfl;have m:jM (ckE ckR) 2 (Ğ (ckE ckR) 10):=amD (ckE ckR) hmix (fun {_} _=>xg hpt (ckE ckR) rfl rfl rfl rfl rfl (Ē rfl) (ke rfl) (ŝ rfl)) rfl rfl rfl;have hD:=hdraw _ _ m;have H:HR (fun _=>undef) [] w:=⟨fun _=>trivial,fun _ _ _ h=>(by cases h),hG,fun _ _ h=>(by cases h),hΦ,fun _ _ ⟨_,h,_⟩=>(by cases h)⟩;have hav:∀b,Av (fun _=>undef) [] b->G b:=fun b hb=>hb.elim (fun⟨_,h,_⟩=>by cases h) id;have C:ÿ (VR (fun _=>undef) [] w) (abK [È] x) vals:=AL.VR (hAL.mono hav);refine⟨⟨Tryz.f54,_,Tryz.func54,amE⟩,?_⟩
 have hlen:vals.length=1:=by
  have:=C.length;simpa[abK,aiP] using this.symm
 cases hM:ckM x with
 |none=>rw[hM] at r; cases r
 |some r0 =>
 rw[hM] at r;have law:=ck_pre x;rw[hM] at law;refine callsIn_wide.2 (callsIn_wide.1 (callsIn_of_wp_marks (n:=2) Tryz.func54 amE trivial ?_ (R:=C2 G y w)))
 have hS:Sim (fun _=>undef) {t:=abK [È] x++List.replicate 77 .any,h:=[]} {tmps:=vals.toArray++Array.replicate (Tryz.f54.ntmps-vals.toArray.size) undef,defers:=[]} w:=by
  refine⟨⟨⟨[],rfl,fI,fun _ h=>(by cases h)⟩,fun l hl=>(by cases hl),dX _,du _⟩,?_,fun i=>?_,H⟩
  ·have:Tryz.f54.ntmps=78:=by kernel_rfl
   have hl2:(abK [È] x).length=1:=rfl;simp[this,hlen,hl2]
  ·simp only[Uj];rcases dV i (abK [È] x).length with hi|hi
   ·have:=ÿ.lk (R:=VR (fun _=>undef) [] w) (fun _=>trivial) i C
    have hv:i<vals.length:=by rw[<-C.length]; exact hi
    have h2:(vals.toArray++Array.replicate (Tryz.f54.ntmps-vals.toArray.size) undef).getD i undef=vals.getD i undef:=by
     simp[dT,fK,hv]
    rw[h2]; exact this
   ·rw[alg _ _ hi]; trivial
 -- the ways out ahead of the loop
 have out:∀ν' U a' w' e,e≠.normal->Sim ν' U a' w'->Ev 0 (fun _=>undef) [] w ν' U.h w'->ckK e U=some r0->bodyPostM Fence.wide 2 Tryz.prog Tryz.f54 (C2 G y w) e a' w':=by
  intro ν' U a' w' e O q E d
  cases e with
  |normal=>exact(O rfl).elim
  |ret =>
   rw[anY] at d
   cases hr:ai1 U with
   |none=>rw[hr] at d; cases d
   |some n =>
    rw[hr,eJ] at d;cases d
    have hyn:n=y:=by simpa using r
    subst hyn;unfold ai1 at hr
    split at hr
    ·rename_i v hv;show LeavesInM _ _ _ _ _ _ a'.defers _ _;obtain⟨⟨ms,m1,m2,m3⟩,_,m4,m5⟩:=q.defers;rw[show a'.defers=ms.map mk1 from m1.trans (dO _)];refine nM ms w' m2 (fun k d=>(m3 k d).1) fun w2 q1 q2 q3 q4 q5=>?_
     have hk2:∀(b:Nat) (o:Obj),w'.heap[b]?=some o->LX o=true\/b<(gck G w.heap.size).B->w2.heap[b]?=some o:=fun b o hb hd=>by
      have hbm:b∉ms:=fun hm=>by
       rw[(m3 b hm).1] at hb; cases hb;rcases hd with hd|hd
       ·cases hd
       ·exact absurd hd (Nat.not_lt_zero _)
      rw[q5 b hbm]; exact hb
     have KG:iL (gck G w.heap.size) ν' U.h w' (gck G w.heap.size).G w2:=iL.nds q2 q3 q4 (by omega) hk2
     have sim2:Sim ν' U {a' with defers:=[]} w2:=⟨⟨⟨[],rfl,fI,fun _ h=>(by cases h)⟩,fun l hl=>(by cases hl),dX _,by rw[q1]; exact m5⟩,q.len,fun i=>VR.step (g:=gck G w.heap.size) (D:=[]) (Q:=none) (M:=w.heap.size) KG (q.tmps i),
      HR.step (g:=gck G w.heap.size) (D:=[]) (Q:=none) (M:=w.heap.size) KG (fun b hb=>by rw[q1]; exact q.heap.ghlt b hb) (fun b hb hg=>by obtain⟨id,h1,h2⟩:=hb; exact q.heap.ghne id b h1 h2 hg) q.heap⟩
     obtain⟨u,r1,r2⟩:=S8 sim2 hv;exact⟨u,r1,u,rfl,acD sim2.heap [tI] r2 hr,fun b hb=>(q5 b fun hm=>by have m7:w.heap.size<=b:=(m3 b hm).2; omega).trans (E.keep b hb fun⟨_,h,_⟩=>by cases h).1,by rw[q1]; exact E.size,q2.trans E.os,q3.trans E.tape,q4.trans E.output⟩
    ·cases hr
  |exit id=>cases d
  |goto l=>cases d
  |panic ch=>cases d
  |outgrown=>cases d
 have J:∀{Y:Nat->Value} {h₁:rT Blk} {w₁:World},Ev 0 (fun _=>undef) [] w Y h₁ w₁->∀ν' U a' w' e,e≠.normal->Sim ν' U a' w'->Ev 0 Y h₁ w₁ ν' U.h w'->ckK e U=some r0->bodyPostM Fence.wide 2 Tryz.prog Tryz.f54 (C2 G y w) e a' w' :=
  fun hE ν' U a' w' e O q E d=>out ν' U a' w' e O q (hE.trans E (du _)) d
 refine peel rfl m hD rfl rfl (fun z _=>kz h0 rfl) law hS (fun ν1 S1 a1 w1 s1 e1 k1=>?_) out;refine peel rfl m hD rfl rfl (fun z _=>kz h0 rfl) k1 s1 (fun ν2 S2 a2 w2 s2 e2 k2=>?_) (J e1);have t2:=e1.trans e2 (du _);refine peel rfl m hD rfl rfl (fun z _=>kz h0 rfl) k2 s2 (fun ν3 S3 a3 w3 s3 e3 k3=>?_) (J t2);have t3:=t2.trans e3 (du _);refine peel rfl m hD rfl rfl (fun z _=>kz h0 rfl) k3 s3 (fun ν4 S4 a4 w4 s4 e4 k4=>?_) (J t3);have t4:=t3.trans e4 (du _);refine peel rfl m hD rfl rfl (fun z _=>kz h0 rfl) k4 s4 (fun ν5 S5 a5 w5 s5 e5 k5=>?_) (J t4);have t5:=t4.trans e5 (du _);refine wpIn_seq (wpIn_seq (wpIn_wide.2 (wpIn_wide.1 (wpIn_mono (qr m hD rfl ckA5 0 S5 _ ν5 a5 w5 (fun z _=>kz h0 rfl) k5 s5 (dX _)) fun e' a6 K ha=>?_))));obtain⟨ν,S,V,e6,_,_,k6⟩:=ha;have N:=t5.trans e6 (du _)
 have f:∀e,e≠.normal->ckK e S=some r0->Exit.then (Code.wpIn Fence.wide 2 Tryz.prog UI (bodyPostM Fence.wide 2 Tryz.prog Tryz.f54 (C2 G y w))) (bodyPostM Fence.wide 2 Tryz.prog Tryz.f54 (C2 G y w)) e a6 K:=by
  intro e O d;have:=out ν S a6 K e O V N d
  cases e<;>first|exact(O rfl).elim|exact this
 cases e' with
 |exit id=>exact f _ (by simp) k6
 |goto l=>exact f _ (by simp) k6
 |ret=>exact f _ (by simp) k6
 |panic ch=>exact f _ (by simp) k6
 |outgrown=>exact f _ (by simp) k6
 |normal =>
 clear f;rw[afN] at k6
 split at k6<;>try (cases k6; done)
 rename_i h78
 have h78':78<=S.t.length:=by simpa using h78
 cases k6;obtain⟨hlens,s,hs,hq⟩:=anX hM;simp only[Prod.mk.injEq,List.cons.injEq,and_true] at hq;obtain⟨⟨q1,q2,q48⟩,qh⟩:=hq
 have Z:XE (nN x s) some (ckS x)=some y:=by
  simp only at r;rw[hs] at r;exact r
 -- what the errors are
 obtain⟨L,X,hLy⟩:∃L,nN x s=some L/\(match L.find? (fun e=>e != 0) with|some e=>some e|none=>ckS x)=some y:=by
  unfold XE at Z
  cases hl:nN x s with
  |none=>rw[hl] at Z; cases Z
  |some L=>rw[hl] at Z; exact⟨L,rfl,Z⟩
 obtain⟨l1,l2,l3,l4,m1,m2,m3,m4,rfl⟩:∃l1 l2 l3 l4,M6 (fun u=>Ĥ u.1 u.2 s) (x.2.2.1:rT (Int×Int))=some l1/\M6 (fun i=>Ų x s i) (xl (x.2.2.2.1:rT qs).length)=some l2 /\
  M6 (fun i=>ĩ x s i) (xl (x.2.2.2.2.1:rT fx).length)=some l3/\M6 (fun u=>Ĥ u.1 u.2 s) (x.2.2.2.2.2:rT (Int×Int))=some l4/\L=l1++(l2++(l3++l4)):=by
  unfold nN at X
  cases m1:M6 (fun u=>Ĥ u.1 u.2 s) (x.2.2.1:rT (Int×Int)) with
  |none=>rw[m1] at X; cases X
  |some l1 =>
  rw[m1] at X
  cases m2:M6 (fun i=>Ų x s i) (xl (x.2.2.2.1:rT qs).length) with
  |none=>simp only[Â,m2] at X; cases X
  |some l2 =>
  cases m3:M6 (fun i=>ĩ x s i) (xl (x.2.2.2.2.1:rT fx).length) with
  |none=>simp only[Â,m2,m3] at X; cases X
  |some l3 =>
  cases m4:M6 (fun u=>Ĥ u.1 u.2 s) (x.2.2.2.2.2:rT (Int×Int)) with
  |none=>simp only[Â,m2,m3,m4] at X; cases X
  |some l4 =>
  simp only[Â,m2,m3,m4] at X;cases X;exact⟨l1,l2,l3,l4,rfl,rfl,rfl,rfl,rfl⟩
 -- the blocks
 obtain⟨T,Hh⟩:=S;dsimp only at q1 q2 q48 qh h78';subst qh;have p1:=V.tmps 1;have p2:=V.tmps 2;have p48:=V.tmps 48;dsimp only at p1 p2 p48;rw[q1] at p1;rw[q2] at p2;rw[q48] at p48;obtain⟨rb,te1,n1,hrb⟩:=Zv (id:=1) (n:=0) V.heap rfl;have hB2:BR ν (ckH x s 0) K 2 (.cells (flat È x)):=V.heap.blk 2;have hB3:BR ν (ckH x s 0) K 3 (.cells [.mp tI Ú s]):=V.heap.blk 3;have hB4:BR ν (ckH x s 0) K 4 (.cells [.fn (.func 199) [] [.box 3 0]]):=V.heap.blk 4;obtain⟨bb,cb,te,n2,hbb,hb2⟩:=hB2;obtain⟨sb,cs3,te3,n3,hsb,hb3⟩:=hB3;obtain⟨tb,cs4,te2,n4,htb,hb4⟩:=hB4;obtain⟨mv,z3,hm3⟩:=hb3.one;obtain⟨fv,z4,hm4⟩:=hb4.one;have hmv:CR K noG (.map tI Ú) s [mv]:=CR.mono (fun _ hf=>hf.elim) (show CR K (Av ν (ckH x s 0)) (.map tI Ú) s [mv] from hm3.1)
 have hc3:cs3=#[mv]:=by rw[<-d9,z3]
 have hfv:fv=.func (.func 199) #[] #[.pointer (some ⟨sb,0,none⟩)]:=by
  obtain⟨fs,cs,h1,h2,h3⟩:=hm4.1
  have e1:fs=#[]:=by rw[<-d9]; exact h2.nil_left
  obtain⟨u,e2,h4⟩:=h3.one;have e3:u=.pointer (some ⟨sb,0,none⟩):=I4 (w:=K) (id:=3) (off:=0) h4 n3
  have e4:cs=#[.pointer (some ⟨sb,0,none⟩)]:=by rw[<-d9,e2,e3]
  rw[h1,e1,e4]
 have hc4:cs4=#[fv]:=by rw[<-d9,z4]
 rw[hc3] at hsb;rw[hc4,hfv] at htb
 have hg:a6.tmps.getD 48 undef=.func (.func 202) #[] #[.pointer (some ⟨bb,0,none⟩),.pointer (some ⟨tb,0,none⟩),.pointer (some ⟨sb,0,none⟩)]:=by
  obtain⟨fs,cs,h1,h2,h3⟩:=p48
  have e1:fs=#[]:=by rw[<-d9]; exact h2.nil_left
  have hl:=h3.length
  obtain⟨u1,u2,u3,e2⟩:∃u1 u2 u3,cs.toList=[u1,u2,u3]:=by
   rcases hcs:cs.toList with _|⟨u1,_|⟨u2,_|⟨u3,_|⟨u4,t⟩⟩⟩⟩<;>rw[hcs] at hl<;>simp at hl
   exact⟨u1,u2,u3,rfl⟩
  rw[e2] at h3;have e3:u1=.pointer (some ⟨bb,0,none⟩):=I4 (w:=K) (id:=2) (off:=0) h3.1 n2;have e4:u2=.pointer (some ⟨tb,0,none⟩):=I4 (w:=K) (id:=4) (off:=0) h3.2.1 n4;have e5:u3=.pointer (some ⟨sb,0,none⟩):=I4 (w:=K) (id:=3) (off:=0) h3.2.2.1 n3;rw[h1,e1];congr 1;rw[<-d9,e2,e3,e4,e5]
 have hseq:=akB V.heap.glob m1 m2 m3 m4 hlens hbb (an4 hb2) htb hsb hmv;have h2:=I4 p2 n1;have hsz:78<=a6.tmps.size:=dG h78' V.len
 have A:∀b,b<w.heap.size->K.heap[b]?=w.heap[b]?/\¬qD ν (ckH x s 0) b:=fun b hb=>N.keep b hb fun⟨_,h,_⟩=>by cases h
 obtain⟨⟨ms,m1',m2',p⟩,_⟩:=V.defers;have hdef:a6.defers=ms.map mk1:=m1'.trans (dO _);show ckRF.wpIn Fence.wide 2 Tryz.prog (Exit.then (UI.wpIn Fence.wide 2 Tryz.prog (bodyPostM Fence.wide 2 Tryz.prog Tryz.f54 (C2 G y w))) (bodyPostM Fence.wide 2 Tryz.prog Tryz.f54 (C2 G y w))) a6 K;rw[anW];refine wpIn_block (amW hseq hg h2 hsz hrb (fun D W hall hbel hDl hDo=>?_) (fun D W z hz j hDl hDo=>?_))
 ·have hck:ckS x=some y:=by
   have:(l1++(l2++(l3++l4))).find? (fun e=>e != 0)=none:=fc.2 fun z hz=>by rw[hall z hz]; simp
   rw[this] at hLy;exact hLy
  have hDn:D∉ms:=fun hm=>by have:=å (p D hm).1; omega
  exact anV (s:=s) (ms:=D::ms) hck V.heap hbel (by show mark D::a6.defers=_; rw[hdef]; rfl) (List.nodup_cons.2 ⟨hDn,m2'⟩) (fun k d=>by
   rcases dE.1 d with rfl|d
   ·exact⟨hDo,dG N.size hDl⟩
   ·exact⟨(hbel.block k (å (p k d).1)).trans (p k d).1,(p k d).2⟩) hsz p1 p2 A N.size N.os N.tape N.output
 ·have hzy:z=y:=by
   rw[hz] at hLy;simpa using hLy
  subst hzy;obtain⟨te5,hcell⟩:=j.cell;have hlb:=å hrb;have hlive:qD ν (ckH x s 0) rb:=⟨1,rfl,by rw[n1]; rfl⟩
  have hDn:D∉ms:=fun hm=>by have:=å (p D hm).1; omega
  exact adX (a:={a6 with defers:=mark D::a6.defers}) (w:=W) (ms:=D::ms) (by show mark D::a6.defers=_; rw[hdef]; rfl) (List.nodup_cons.2 ⟨hDn,m2'⟩) (fun k d=>by
   rcases dE.1 d with rfl|d
   ·exact⟨hDo,dG N.size hDl⟩
   ·exact⟨(j.block k (å (p k d).1) (fun e=>by have h9:=(p k d).1; rw[e,hrb] at h9; cases h9)).trans (p k d).1,(p k d).2⟩) h2 hcell
   (fun b hb=>(j.block b (by have:=N.size; omega) (fun e=>(A b hb).2 (e▸hlive))).trans (A b hb).1) (by have:=N.size; have:=j.size; omega) (j.os.trans N.os) (j.tape.trans N.tape) (j.output.trans N.output)
def qA:Ķ Tryz.prog 54 mT:=fun G x y hF w vals hG hΦ hAL=>afO G x y hF w vals hG hΦ hAL
end Go.Proofs.ZzM
end

noncomputable section
namespace Go.Proofs
open Go.RowKit
attribute [local go_sem] Oper.semAt_some
def aee (w:World) (o o':Obj):((w.alloc o).alloc o').heap[w.heap.size+1]?=some o':=by
 simp only[World.alloc];rw[show w.heap.size+1=(w.heap.push o).size from(Array.size_push _).symm];exact Array.getElem?_push_size
def ajR (w:World) (o o':Obj):((w.alloc o).alloc o').heap[w.heap.size]?=some o:=by
 simp only[World.alloc];rw[Array.getElem?_push_lt (by rw[Array.size_push]; omega),Array.getElem_push_eq]
def aao (w:World) (o o':Obj) (b:Nat) (hb:b<w.heap.size):((w.alloc o).alloc o').heap[b]?=w.heap[b]?:=by
 simp only[World.alloc];rw[Array.getElem?_push_lt (by simp; omega),Array.getElem_push_lt hb,Array.getElem?_eq_getElem hb]
def amF {W:World} {b:Nat} {f e d c a:Value} {t:TypeId} (h:W.heap[b]?=some (.cells #[f,e,d,c,a] t (0,0))) :
 W.cell? ⟨b,0,none⟩=some f/\W.cell? ⟨b,1,none⟩=some e/\W.cell? ⟨b,2,none⟩=some d/\W.cell? ⟨b,3,none⟩=some c/\W.cell? ⟨b,4,none⟩=some a/\∀j,W.frozen? ⟨b,j,none⟩=false:=by
 refine⟨?_,?_,?_,?_,?_,fun j=>?_⟩<;>simp only[World.cell?,World.frozen?,h]<;>rfl
def set5 {W:World} {b:Nat} {f e d c a:Value} {m k j i g:Value} {t:TypeId} (h:W.heap[b]?=some (.cells #[m,k,j,i,g] t (0,0))) :
 (((((W.setCell ⟨b,0,none⟩ f).setCell ⟨b,1,none⟩ e).setCell ⟨b,2,none⟩ d).setCell ⟨b,3,none⟩ c).setCell ⟨b,4,none⟩ a)=W.setRow b #[f,e,d,c,a]:=by
 rw[setCell_eq_setRow W b 0 _ t (0,0) f h,setCell_eq_setRow _ b 1 _ t (0,0) e (setRow_heap _ _ _ _ t _ h),setRow_setRow,setCell_eq_setRow _ b 2 _ t (0,0) d (setRow_heap _ _ _ _ t _ h),setRow_setRow,
  setCell_eq_setRow _ b 3 _ t (0,0) c (setRow_heap _ _ _ _ t _ h),setRow_setRow,setCell_eq_setRow _ b 4 _ t (0,0) a (setRow_heap _ _ _ _ t _ h),setRow_setRow]
 rfl
def aey {T:Array Value} {b:Nat} {i g f d c:Int} {e:TypeId} {W:World} (h2:T.getD 2 undef=.pointer (some ⟨b,0,none⟩)) (p:W.heap[b]?=some (.cells #[.int .i64 i,.int .i64 g,.int .i64 f,.int .i64 d,.int .i64 c] e (0,0))):(results Tryz.f181 T).run Tryz.prog W=.ok (.agg #[.int .i64 i,.int .i64 g,.int .i64 f,.int .i64 d,.int .i64 c]) W:=by
 letI:Go.Am.Ghost:=Go.Am.Gh fun _=>False
 have m:(loadVar 245 ⟨b,0,none⟩).run Tryz.prog W=.ok (.agg #[.int .i64 i,.int .i64 g,.int .i64 f,.int .i64 d,.int .i64 c]) W:=by
  have:=Go.Am.run_loadVar (P:=Tryz.prog) (w:=W) (t:=245) (agg:=true) (n:=5) (by kernel_rfl) (us:=[.int .i64 i,.int .i64 g,.int .i64 f,.int .i64 d,.int .i64 c]) rfl (fun h=>by cases h) (a:=⟨b,0,none⟩) (fun j v o=>by
   have:=Go.Am.CellsAt.of_cells p j v (by simpa using o)
   have ha:(⟨b,0,none⟩:Addr).add j=⟨b,j,none⟩:=by unfold Addr.add; split<;>simp_all
   rw[ha]; simpa using this)
  exact this
 have k:Tryz.f181.results=#[.cell 2 245]:=by kernel_rfl
 unfold results;rw[k,Array.mapM_eq_mapM_toList];simp only[Sem.run_bind,Sem.run_map,List.mapM_cons,List.mapM_nil,h2,asAddr,Sem.run_pure,Result.andThen_ok,m];rfl
set_option maxRecDepth 100000 in
set_option maxHeartbeats 1000000 in
def akG (v:Value) (w:World) (c0 c1 c2 c3 c4:Int) (n:Int)
 (hcopy : ∀ W, (∀ b, b < w.heap.size -> W.heap[b]? = w.heap[b]?) -> W.heap[w.heap.size + 1]? = some (.cells #[.int .i64 0, .int .i64 0, .int .i64 0, .int .i64 0, .int .i64 0] 245 (0, 0)) -> (Builtin.copy_ #[41, 41] 3 #[.slice (some ⟨w.heap.size + 1, 0, none⟩) 5 5, v]).run Tryz.prog W = .ok (.int .i64 n) (W.setRow (w.heap.size + 1) #[.int .i64 c0, .int .i64 c1, .int .i64 c2, .int .i64 c3, .int .i64 c4])) :
  CallsIn Fence.wide 0 Tryz.prog 181 #[v] w fun e W'=>e=.returned (.agg #[.int .i64 c0,.int .i64 c1,.int .i64 c2,.int .i64 c3,.int .i64 c4])/\(∀b,b<w.heap.size->W'.heap[b]?=w.heap[b]?)/\w.heap.size<=W'.heap.size/\W'.os=w.os/\W'.tape=w.tape/\W'.output=w.output:=by
 refine callsIn_of_wp Tryz.func181 rfl trivial ?_ rfl;simp only[Tryz.ntmps181,fN,dz,dI,Nat.reduceAdd,Nat.reduceSub,Array.replicate_succ,Array.replicate_zero,List.push_toArray,gE,eT,eA]
 gi_wp2
 rw[hcopy _ (aao _ _ _) (aee _ _ _)];generalize hW:World.setRow _ _ _=W1
 have g1:W1.heap[w.heap.size+1]?=some (.cells #[.int .i64 c0,.int .i64 c1,.int .i64 c2,.int .i64 c3,.int .i64 c4] 245 (0,0)):=by
  rw[<-hW]; exact setRow_heap _ _ _ _ 245 _ (aee _ _ _)
 have g2:W1.heap[w.heap.size]?=some (.cells #[.int .i64 0,.int .i64 0,.int .i64 0,.int .i64 0,.int .i64 0] 245 (0,0)):=by
  rw[<-hW,setRow_other _ _ _ _ (by omega)]; exact ajR _ _ _
 have g3:∀b,b<w.heap.size->W1.heap[b]?=w.heap[b]?:=fun b hb=>by
  rw[<-hW,setRow_other _ _ _ _ (by omega)]; exact aao _ _ _ b hb
 have g4:W1.os=w.os/\W1.tape=w.tape/\W1.output=w.output/\W1.heap.size=w.heap.size+2:=by
  rw[<-hW]; refine⟨rfl,rfl,rfl,?_⟩;rw[size_setRow]; simp only[World.alloc,Array.size_push]
 clear hW hcopy;obtain⟨l0,l1,l2,l3,l4,_⟩:=amF g1;obtain⟨z0,z1,z2,z3,z4,zf⟩:=amF g2
 gi_wp2
 rw[set5 g2];refine bodyPost_ret (aey rfl (setRow_heap _ _ _ _ 245 _ g2)) rfl ?_;exact⟨rfl,fun b hb=>(setRow_other _ _ _ _ (by omega)).trans (g3 b hb),by rw[size_setRow]; omega,g4.1,g4.2.1,g4.2.2.1⟩
end Go.Proofs
namespace Go.Proofs.ZzM
open Go Go.Am Go.Proofs
noncomputable def amV (xs:rT Int):(#[Value.int .i64 0,.int .i64 0,.int .i64 0,.int .i64 0,.int .i64 0].toList.take 0++(xs.take 5).map (Value.int .i64 ·)++#[Value.int .i64 0,.int .i64 0,.int .i64 0,.int .i64 0,.int .i64 0].toList.drop (0+((xs.take 5).map (Value.int .i64 ·)).length)).toArray =
 #[.int .i64 (xs.getD 0 0),.int .i64 (xs.getD 1 0),.int .i64 (xs.getD 2 0),.int .i64 (xs.getD 3 0),.int .i64 (xs.getD 4 0)]:=by
 rcases xs with _|⟨a,_|⟨b,_|⟨c,_|⟨d,_|⟨e,r⟩⟩⟩⟩⟩<;>rfl
def ai7:Ķ Tryz.prog 181 XL:=by
 intro G x y E w vals M A r;obtain⟨v,rfl,us,p,o⟩:=r;change rT Int at x;obtain⟨base,cap,rfl,s,d⟩:=p;have o:v=.slice base (x:rT Int).length cap:=o;subst o;have B:y=((x:rT Int).getD 0 0,(x:rT Int).getD 1 0,(x:rT Int).getD 2 0,(x:rT Int).getD 3 0,(x:rT Int).getD 4 0):=(Option.some.inj E).symm;refine⟨⟨Tryz.f181,_,Tryz.func181,rfl⟩,?_⟩
 have c:∀W:World,(∀b,b<w.heap.size->W.heap[b]?=w.heap[b]?)->W.heap[w.heap.size+1]?=some (.cells #[.int .i64 0,.int .i64 0,.int .i64 0,.int .i64 0,.int .i64 0] 245 (0,0)) ->
  (Builtin.copy_ #[41,41] 3 #[.slice (some ⟨w.heap.size+1,0,none⟩) 5 5,.slice base (x:rT Int).length cap]).run Tryz.prog W=.ok (.int .i64 ((((x:rT Int).take 5).map (Value.int .i64 ·)).length:Nat)) (W.setRow (w.heap.size+1) #[.int .i64 ((x:rT Int).getD 0 0),.int .i64 ((x:rT Int).getD 1 0),.int .i64 ((x:rT Int).getD 2 0),.int .i64 ((x:rT Int).getD 3 0),.int .i64 ((x:rT Int).getD 4 0)]):=by
  intro W g a;rcases d with h0|⟨b,off,rfl,D,hb,q⟩
  ·have h0:x=([]:rT Int):=h0;subst h0;rw[run_copy_none W 41 41 3 3 _ _ 5 5 _ _ (by kernel_rfl) (by kernel_rfl) (by simp)];exact congrArg _ (setRow_self W _ _ 245 (0,0) a).symm
  ·have:=run_copy_row Tryz.prog W 41 41 3 3 (w.heap.size+1) 0 5 5 ⟨b,off,none⟩ (x:rT Int).length cap _ 245 (((x:rT Int).take 5).map (Value.int .i64 ·)) (by kernel_rfl) (by kernel_rfl) a (by simp[Nat.min_comm]) (fun j u i=>by
    rw[eY] at i
    cases f:((x:rT Int).take 5)[j]? with
    |none=>rw[f] at i; cases i
    |some n =>
     rw[f] at i;cases i
     have m:(x:rT Int)[j]?=some n:=by
      rw[eI] at f
      split at f
      ·exact f
      ·cases f
     obtain⟨us,k,z⟩:=q j n m;have k:us=[.int .i64 n]:=k;subst k;have t:=z 0 _ rfl
     have ha:(⟨b,off,none⟩:Addr).add j=⟨b,off+j,none⟩:=by unfold Addr.add; split<;>simp_all
     rw[ha,World.cell?_of_block (w:=w) (by exact g b hb)]
     simpa[Ty.size] using t) (by simp; omega) (fun u C=>by
    obtain⟨n,_,rfl⟩:=eN.1 C
    rfl)
   rw[amV] at this;exact this
 refine(akG _ w _ _ _ _ _ _ c).mono fun e w' h=>?_;obtain⟨rfl,L,h2,K,J,H⟩:=h;refine⟨_,rfl,?_,L,h2,K,J,H⟩;subst B;exact⟨[.int .i64 _,.int .i64 _,.int .i64 _,.int .i64 _,.int .i64 _],⟨[_],_,rfl,rfl,[_],_,rfl,rfl,[_],_,rfl,rfl,[_],_,rfl,rfl,rfl⟩,rfl⟩
end Go.Proofs.ZzM
end

noncomputable section
set_option maxRecDepth 100000
namespace Go.Proofs.ZzM
open Go Go.Am
def afQ [LC]:ZP 5 Ta:=zt (xP _) Ã rfl (À Ks (À Kr Ã)) fun x=>by kernel_rfl
def ajA [LC]:ZP 206 Ye:=zt (Po _) (À qA (À Ea (À Hx Ã))) rfl (À Pn Ã) fun x=>by kernel_rfl
def alZ [LC]:ZP 122 ac0:=zt (afg _) (À ajA (À ad6 Ã)) rfl Ã fun x=>by kernel_rfl
def ai9 [LC]:ZP 55 XN:=zt (km _) (À alZ Ã) rfl (À Nu (À Nt (À Ns (À Nr (À Nq Ã))))) fun x=>VE x some
def Τ [LC]:ZP 16 ŭ:=zt (DB _) (À qA (À ai9 Ã)) rfl (À NR (À NS Ã)) fun x=>by kernel_rfl
def WK [LC]:ZP 41 MM:=zt (Yv _) (À uR Ã) rfl (À VC Ã) fun x=>by kernel_rfl
def Qv [LC]:ZP 136 xB:=zt (tv _) (À WK Ã) rfl (À xV Ã) fun x=>by kernel_rfl
def pd [LC]:Ķ Tryz.prog 61 lf:=LU (Ŕ _) (fun {_}=>xg (À WK (À Qv Ã)) (Ŕ _) rfl rfl rfl rfl rfl (Ē rfl) (ke rfl) (ŝ rfl)) hmix rfl (À Ds (À Dr (À Dq (À Dp Ã)))) (iA fun x=>H5 x some)
def i7 [LC]:ZP 214 œ:=zt (iu _) Ã rfl (À lG Ã) fun x=>by kernel_rfl
def aag [LC]:ZP 279 Jo:=zt (Sa _) (À i7 Ã) rfl Ã fun x=>by kernel_rfl
def alW [LC]:ZP 281 acX:=zt (Ip _) (À mH Ã) rfl (À Sg (À Sf Ã)) fun x=>by kernel_rfl
def LG [LC]:ZP 324 wm:=zt (Gb _) Ã rfl Ã fun x=>by kernel_rfl
def zQ [LC]:ZP 327 tf:=zt (O4 _) (À Hw Ã) rfl (À O3 Ã) fun x=>by kernel_rfl
def QC [LC]:ZP 334 Dg:=zt (VW _) (À ad4 (À aju Ã)) rfl Ã fun x=>by kernel_rfl
def an2 [LC]:ZP 330 ag5:=zt (ahS _) (À zQ (À QC Ã)) rfl Ã fun x=>by kernel_rfl
def WP [LC]:ZP 325 EG:=zt (O8 _) (À an2 Ã) rfl Ã fun x=>by kernel_rfl
def abZ [LC]:ZP 339 aa2:=zt (ahR _) Ã rfl Ã fun x=>by kernel_rfl
def C0 [LC]:ZP 335 BB:=zt (Ln _) (À zQ (À abZ Ã)) rfl Ã fun x=>by kernel_rfl
def ajw [LC]:ZP 338 ag6:=zt (ahT _) (À zQ (À QC Ã)) rfl Ã fun x=>by kernel_rfl
def ajv [LC]:Ķ Tryz.prog 331 Ya:=agY (DN _) (Za _) (fun {_}=>xg (À Hw (À C0 (À ajw (À abZ Ã)))) (DN _) rfl rfl rfl rfl rfl (Ē rfl) (ke rfl) (ŝ rfl)) (fun {_}=>libN (À Hw (À C0 (À ajw (À abZ Ã)))) _) rfl hmix (tab:=vy _) rfl Ã (us:=J0) rfl (À (by kernel_rfl) Ã) (iA fun x=>VY x some)
def WO [LC]:ZP 326 EF:=zt (O7 _) (À ajv Ã) rfl Ã fun x=>by kernel_rfl
def af9 [LC]:ZP 312 Tu:=zt (Zi _) (À Ea (À Mk (À LG (À WP (À WO Ã))))) rfl Ã fun x=>by kernel_rfl
def ajz [LC]:ZP 313 Yd:=zt (abv _) Ã rfl Ã fun x=>by kernel_rfl
def aaf [LC]:ZP 328 MR:=zt (abq _) Ã rfl Ã fun x=>by kernel_rfl
def ajx [LC]:ZP 314 Yb:=zt (abt _) (À zQ (À aaf Ã)) rfl Ã fun x=>by kernel_rfl
def alT [LC]:ZP 315 acU:=zt (afb _) (À zQ (À aaf Ã)) rfl Ã fun x=>by kernel_rfl
def alU [LC]:ZP 282 acV:=zt (afc _) (À af9 (À ajz (À ajx (À alT Ã)))) rfl Ã fun x=>by kernel_rfl
def alV [LC]:ZP 147 acW:=zt (Ao _) (À QF (À Mk (À ad5 (À aag (À alW (À alU Ã)))))) rfl (À Sc (À Sd (À Sb Ã))) fun x=>by kernel_rfl
def AZ [LC]:ZP 76 tj:=zt (Zk _) (À qA (À alV Ã)) rfl Ã fun x=>by kernel_rfl
def ad3 [LC]:ZP 224 Vj:=zt (ae8 _) Ã rfl Ã fun x=>by kernel_rfl
def Hv [LC]:ZP 148 xF:=zt (O2 _) (À ad3 Ã) rfl (À O1 Ã) fun x=>by kernel_rfl
def zP [LC]:ZP 149 qU:=zt (Ź _) Ã rfl (À F3 (À F0 (À FY (À FZ (À FX Ã))))) fun x=>Ld x some
def SI [LC]:ZP 141 Bz:=zt (Ll _) (À Hv (À zP Ã)) rfl Ã fun x=>by kernel_rfl
def zM [LC]:ZP 67 qT:=zt (Re _) (À pd (À AZ (À SI Ã))) rfl Ã fun x=>by kernel_rfl
def QD [LC]:ZP 213 xG:=zt (Ik _) Ã rfl Ã fun x=>by kernel_rfl
def uT [LC]:ZP 129 ml:=zt (DP _) (À QD Ã) rfl Ã fun x=>by kernel_rfl
def afR [LC]:ZP 130 Tb:=zt (xU _) Ã rfl (À Kt (À Ku Ã)) fun x=>by kernel_rfl
def UJ [LC]:ZP 128 HQ:=zt (Yx _) (À uT (À afR Ã)) rfl Ã fun x=>by kernel_rfl
def ph [LC]:XOk Tryz.prog 265 (.row ö):=Va (r:=ö) (ï _) (fun {_}=>xg (À UJ Ã) (ï _) rfl rfl rfl rfl rfl (Ē rfl) (ke rfl) (ŝ rfl)) hmix rfl (À kY (À kZ Ã)) (fun xs x m=>md xs x m some)
def zN [LC]:XOk Tryz.prog 306 (.row Ĝ):=Va (r:=Ĝ) (ó _) (fun {_}=>xg Ã (ó _) rfl rfl rfl rfl rfl (Ē rfl) (ke rfl) (ŝ rfl)) hmix rfl (À pZ (À pY (À p8 (À pX Ã)))) (fun xs x m=>sL xs x m some)
noncomputable def pf [LC] {a:(Val (.slice (.slice (.slice tI))))->Int->Int->Int->a8->rF ((Val (.slice (.slice (.slice tI))))×a8)} (b:XOk Tryz.prog 266 (.row ⟨(.slice (.slice tI)),[tI,tI,tI],128,Ä,fun(xs:(Val (.slice (.slice (.slice tI))))) (x:kV) (m:a8)=>a xs x.1 x.2.1 x.2.2 m⟩)):XOk Tryz.prog 266 (.row ⟨(.slice (.slice tI)),[tI,tI,tI],128,Ä,fun(xs:(Val (.slice (.slice (.slice tI))))) (x:kV) (m:a8)=>Ŋ a xs x.1 x.2.1 x.2.2 m some⟩):=Va (r:=⟨(.slice (.slice tI)),[tI,tI,tI],128,Ä,fun(xs:(Val (.slice (.slice (.slice tI))))) (x:kV) (m:a8)=>Ŋ a xs x.1 x.2.1 x.2.2 m some⟩) (É a _) (fun {_}=>xg (À UJ Ã) (É a _) rfl rfl rfl rfl rfl (Ē rfl) (IU (À b (À zN Ã)) rfl) (ŝ rfl)) hmix (tab:=iP a _) rfl (À oe (À od (À oc (À ob (À oa Ã))))) (fun xs x m=>pT _ xs x m some)
def i6 [LC]:∀n:Nat,XOk Tryz.prog 266 (.row ⟨(.slice (.slice tI)),[tI,tI,tI],128,Ä,fun(xs:(Val (.slice (.slice (.slice tI))))) (x:kV) (m:a8)=>κ n xs x.1 x.2.1 x.2.2 m⟩)
 |0=>amd.mk (by intro _ _ _ _ _ _ h; cases h)
 |n+1=>pf (i6 n)
def vV [LC]:XOk Tryz.prog 266 (.row lg):=i6 100
def nW [LC]:XOk Tryz.prog 212 (.row Č):=Va (r:=Č) (ā _) (fun {_}=>xg Ã (ā _) rfl rfl rfl rfl rfl (Ē rfl) (IU (À ph (À vV Ã)) rfl) (ŝ rfl)) hmix rfl (À pW (À pU (À pV Ã))) (fun xs x m=>sK xs x m some)
def ad0 [LC]:Ķ Tryz.prog 38 Vg:=MJ (Κ _) (fun {_}=>xg (À zM Ã) (Κ _) rfl rfl rfl rfl rfl (Ē rfl) (IU (À nW Ã) rfl) (ŝ rfl)) hmix rfl (À Rc (À Rb Ã)) (rtab:=Nw _) rfl (À (Ra Qn) Ã) (À Q9 Ã) (iA fun x=>YB x some)
def an0 [LC]:ZP 10 ag3:=zt (ahE _) (À Τ (À ad0 Ã)) rfl Ã fun x=>by kernel_rfl
def ai8 [LC]:Ķ Tryz.prog 97 XM:=MJ (ŵ _) (fun {_}=>xg (À ai7 Ã) (ŵ _) rfl rfl rfl rfl rfl (Ē rfl) (ke rfl) (ŝ rfl)) hmix rfl (À Np Ã) (rtab:=Jz _) rfl (À (No ai3) Ã) (À Nn Ã) (iA fun x=>VD x some)
def aja [LC]:ZP 43 XO:=zt (abe _) (À Τ (À ai8 Ã)) rfl Ã fun x=>by kernel_rfl
def Qw [LC]:ZP 44 Ez:=zt (Nj _) Ã rfl (À Ni Ã) fun x=>by kernel_rfl
def anZ [LC]:ZP 12 ag2:=zt (ahB _) (À WK (À aja (À Qw Ã))) rfl Ã fun x=>by kernel_rfl
def Hu [LC]:Ķ Tryz.prog 58 Af:=MJ (je _) (fun {_}=>xg Ã (je _) rfl rfl rfl rfl rfl (Ē rfl) (IU (À nW Ã) rfl) (ŝ rfl)) hmix rfl Ã (rtab:=Na _) rfl (À (QZ Qn) Ã) (À QY Ã) (iA fun x=>Yw x some)
def alJ [LC]:ZP 18 acK:=zt (aeZ _) (À Τ (À Hu Ã)) rfl Ã fun x=>by kernel_rfl
def Z8 [LC]:ZP 19 Jj:=zt (QV _) Ã rfl Ã fun x=>by kernel_rfl
def vU [LC]:ZP 59 oA:=zt (xY _) (À Hu (À zM Ã)) rfl (À Dx Ã) fun x=>by kernel_rfl
def ajd [LC]:ZP 20 XR:=zt (abf _) (À Τ (À vU Ã)) rfl Ã fun x=>by kernel_rfl
def ajC [LC]:ZP 132 Yg:=zt (abw _) (À qA (À QF (À i7 Ã))) rfl Ã fun x=>by kernel_rfl
def alY [LC]:ZP 133 acZ:=zt (Uh _) (À qA Ã) rfl (À Sx Ã) fun x=>by kernel_rfl
def ajr [LC]:ZP 216 X7:=zt (OT _) (À Hv (À zP (À ad3 Ã))) rfl (À OS Ã) fun x=>by kernel_rfl
def af8 [LC]:ZP 267 Tt:=zt (iS _) Ã rfl (À Lj (À Li (À Lh (À Lf (À Lg Ã))))) fun x=>RN x some
def ajs [LC]:ZP 134 X8:=zt (DM _) (À ajr (À af8 Ã)) rfl (À OV (À OU Ã)) fun x=>by kernel_rfl
def afS [LC]:ZP 60 Tc:=zt (Yz _) (À AZ (À ajC (À alY (À ajs Ã)))) rfl Ã fun x=>by kernel_rfl
def afV [LC]:ZP 21 Tf:=zt (yp _) (À Τ (À ad0 (À WK (À Qw (À afS (À pd Ã)))))) rfl (À KE (À KD Ã)) fun x=>by kernel_rfl
def adZ [LC]:ZP 63 Vf:=zt (Ai _) (À ł Ã) rfl (À Q2 (À Q0 Ã)) fun x=>Yy x some
def alK [LC]:ZP 22 acL:=zt (H7 _) (À Τ (À vU (À mc (À adZ Ã)))) rfl (À Rj (À Ri Ã)) fun x=>by kernel_rfl
def afU [LC]:ZP 68 Te:=zt (JC _) Ã rfl (À Kz Ã) fun x=>by kernel_rfl
def Z9 [LC]:ZP 23 Jk:=zt (ğ _) (À Τ (À Hu (À adZ (À zM (À afU (À uT Ã)))))) rfl (À Fv (À Fw (À Fu (À Ft (À Fq (À Fp (À Fo (À Fs Ã)))))))) fun x=>KA x some
def aga [LC]:ZP 74 Tv:=zt (Zl _) (À UP (À Mk Ã)) rfl Ã fun x=>by kernel_rfl
def WL [LC]:ZP 24 EA:=zt (lB _) (À Τ (À Qw (À vU (À aga (À ł Ã))))) rfl (À Dz (À Dy Ã)) fun x=>H6 x some
def ajq [LC]:ZP 150 X6:=zt (OP _) Ã rfl (À abo (À abm (À abl (À abn Ã)))) fun x=>by kernel_rfl
def ajt [LC]:ZP 77 X9:=zt (mw _) (À Hv (À zP (À ajq Ã))) rfl (À O0 (À OW (À OX (À OY (À OZ Ã))))) fun x=>by kernel_rfl
def ajb [LC]:ZP 25 XP:=zt (NE _) (À Τ (À Hu (À pd (À AZ (À ajt Ã))))) rfl (À ND Ã) fun x=>by kernel_rfl
def abY [LC]:ZP 153 MQ:=zt (F4 _) Ã rfl (À Ij Ã) fun x=>by kernel_rfl
def alS [LC]:ZP 154 acT:=zt (T3 _) Ã rfl (À RM Ã) fun x=>by kernel_rfl
def SJ [LC]:ZP 78 BA:=zt (Lm _) (À Hv (À abY (À alS Ã))) rfl Ã fun x=>by kernel_rfl
def SF [LC]:ZP 26 Bw:=zt (wB _) (À Τ (À Hu (À pd (À AZ (À SJ Ã))))) rfl (À Bc Ã) fun x=>by kernel_rfl
def pj [LC]:ZP 28 lh:=zt (yI _) Ã rfl (À DJ Ã) fun x=>by kernel_rfl
def aac [LC]:ZP 27 Jm:=zt (B0 _) (À pj Ã) rfl (À FG Ã) fun x=>by kernel_rfl
def WJ [LC]:ZP 6 Ey:=zt (xQ _) (À an0 (À anZ (À alJ (À Z8 (À ajd (À afV (À alK (À Z9 (À WL (À ajb (À SF (À aac (À pj Ã))))))))))))) rfl Ã fun x=>H4 x some
def alX [LC]:ZP 88 acY:=zt (Ud _) (À CY Ã) rfl (À Sh Ã) fun x=>by kernel_rfl
def aah [LC]:ZP 36 MU:=zt (kq _) (À qA (À alX (À SG Ã))) rfl (À Pv (À Pu (À Ps (À Pr (À Pq Ã))))) fun x=>Wc x some
def aaa [LC]:ZP 8 MN:=zt (DA _) (À Τ (À aah (À CY Ã))) rfl (À NF (À NG Ã)) fun x=>by kernel_rfl
def mf [LC]:ZP 79 Ž:=zt (la _) Ã rfl Ã fun x=>by kernel_rfl
def D9 [LC]:ZP 29 pL:=zt (yq _) (À mf Ã) rfl Ã fun x=>by kernel_rfl
def QE [LC]:Ķ Tryz.prog 161 Dh:=LU (oU _) (fun {_}=>xg Ã (oU _) rfl rfl rfl rfl rfl (Ē rfl) (IU (À CZ Ã) rfl) (ŝ rfl)) hmix rfl (À Io Ã) (iA fun x=>Pc x some)
def ajy [LC]:ZP 167 Yc:=zt (Pa _) (À QE Ã) rfl (À O9 Ã) fun x=>by kernel_rfl
def PA [LC] {ρ:Type} (a:QP Tryz.prog 82 kO):(sP ρ).Ok (ii ρ):=⟨Lw,a,Py,Pw,eE rfl,Px,fun p v y c b=>(Ly p v y c b).trans (Lx p v y c b)⟩
def ajB [LC]:Ķ Tryz.prog 31 Yf:=XF (ii _) (fun {_}=>xg (À Qx (À oy (À aah (À QE (À ajy Ã))))) (ii _) rfl rfl rfl rfl rfl (Ē rfl) (ke rfl) (ŝ rfl)) hmix rfl Ã (rtab:=J3 _) rfl (À (PA ady) Ã) (À Pz Ã) (iA fun x=>Wd x some)
def NL [LC] {ρ:Type} (a:QP Tryz.prog 82 kO):(sJ ρ).Ok (Ŷ ρ):=⟨KB,a,NJ,NH,eE rfl,NI,fun p v y c b=>KC p v y c b⟩
def ajc [LC]:Ķ Tryz.prog 7 XQ:=XF (Ŷ _) (fun {_}=>xg (À aaa (À D9 (À Qy (À ajB (À oy Ã))))) (Ŷ _) rfl rfl rfl rfl rfl (Ē rfl) (IU (À LD (À CZ Ã)) rfl) (ŝ rfl)) hmix rfl (À NM Ã) (rtab:=JF _) rfl (À (NL ady) Ã) (À NK Ã) (iA fun x=>VH x some)
def LF [LC]:ZP 95 wj:=zt (FS _) (À pj Ã) rfl Ã fun x=>by kernel_rfl
def SH [LC]:ZP 96 By:=zt (wD _) Ã rfl (À Be Ã) fun x=>by kernel_rfl
def ajk [LC]:ZP 42 XY:=zt (qk _) (À LF (À SH Ã)) rfl (À Og (À Oe (À Od (À Oc Ã)))) fun x=>by kernel_rfl
def aje [LC]:ZP 11 XS:=zt (NU _) (À pj (À ajk Ã)) rfl (À NT Ã) fun x=>by kernel_rfl
def sv [LC]:ZP 100 mS:=zt (Rs _) Ã rfl Ã fun x=>by kernel_rfl
def I2 [LC]:ZP 110 De:=zt (ahF _) Ã rfl Ã fun x=>by kernel_rfl
def Mj [LC]:ZP 106 ED:=zt (ae2 _) (À I2 Ã) rfl Ã fun x=>by kernel_rfl
def ad1 [LC]:ZP 244 Vh:=zt (T1 _) Ã rfl (À RL Ã) fun x=>by kernel_rfl
def ad2 [LC]:ZP 245 Vi:=zt (ae7 _) Ã rfl Ã fun x=>by kernel_rfl
def af5 [LC]:ZP 185 Tq:=zt (Y3 _) (À ad1 (À ad2 Ã)) rfl Ã fun x=>by kernel_rfl
def af1 [LC]:ZP 101 Tl:=zt (YN _) (À sv (À Mj (À I2 (À af5 Ã)))) rfl Ã fun x=>by kernel_rfl
def zO [LC]:ZP 111 td:=zt (OE _) Ã rfl (À OD Ã) fun x=>by kernel_rfl
def uS [LC]:ZP 107 pp:=zt (YQ _) (À zO Ã) rfl Ã fun x=>by kernel_rfl
def ajf [LC]:ZP 102 XT:=zt (NZ _) (À Mj (À uS Ã)) rfl (À NY Ã) fun x=>by kernel_rfl
def afZ [LC]:ZP 103 Tj:=zt (rD _) (À sv (À uS (À I2 Ã))) rfl (À KP (À KO (À KQ Ã))) fun x=>by kernel_rfl
def ajl [LC]:ZP 186 XZ:=zt (Oo _) (À I2 Ã) rfl (À On Ã) fun x=>by kernel_rfl
def afX [LC]:ZP 104 Th:=zt (YK _) (À sv (À Mj (À I2 (À ajl Ã)))) rfl Ã fun x=>by kernel_rfl
def QA [LC]:ZP 47 EC:=zt (Oy _) Ã rfl (À Ox Ã) fun x=>by kernel_rfl
def alN [LC]:ZP 246 acO:=zt (TX _) Ã rfl (À RH Ã) fun x=>by kernel_rfl
def aae [LC]:ZP 187 MO:=zt (OA _) (À alN Ã) rfl (À Oz Ã) fun x=>by kernel_rfl
def WN [LC]:ZP 105 EB:=zt (iQ _) (À QA (À uS (À zO (À aae Ã)))) rfl (À DG (À DF (À DE Ã))) fun x=>If x some
def WM [LC]:ZP 191 LW:=zt (ae1 _) (À aae Ã) rfl Ã fun x=>by kernel_rfl
def ajh [LC]:ZP 188 XV:=zt (DH _) (À WM Ã) rfl (À N8 (À N7 Ã)) fun x=>by kernel_rfl
def I1 [LC]:ZP 108 Ag:=zt (iR _) (À ajh Ã) rfl (À K6 (À K5 (À K4 (À KY (À KZ (À K3 Ã)))))) fun x=>by kernel_rfl
def aji [LC]:ZP 247 XW:=zt (Ob _) Ã rfl (À Oa Ã) fun x=>by kernel_rfl
def ajm [LC]:ZP 189 X0:=zt (Ow _) (À QA (À zO (À aji Ã))) rfl (À Ov Ã) fun x=>by kernel_rfl
def af3 [LC]:ZP 190 Tn:=zt (JN _) (À I1 Ã) rfl (À K7 Ã) fun x=>by kernel_rfl
def QB [LC]:ZP 329 Df:=zt (VT _) (À ad1 (À ad2 Ã)) rfl Ã fun x=>by kernel_rfl
def alR [LC]:ZP 318 acS:=zt (ae6 _) (À QB Ã) rfl Ã fun x=>by kernel_rfl
def alP [LC]:ZP 319 acQ:=zt (ae4 _) Ã rfl Ã fun x=>by kernel_rfl
def alO [LC]:ZP 295 acP:=zt (ae3 _) (À alR (À alP Ã)) rfl Ã fun x=>by kernel_rfl
def af0 [LC]:ZP 296 Tk:=zt (YM _) (À zO Ã) rfl Ã fun x=>by kernel_rfl
def ajo [LC]:ZP 320 X4:=zt (abi _) Ã rfl Ã fun x=>by kernel_rfl
def alQ [LC]:ZP 321 acR:=zt (ae5 _) (À QB Ã) rfl Ã fun x=>by kernel_rfl
def af6 [LC]:ZP 297 Tr:=zt (Y4 _) (À ajo (À alQ Ã)) rfl Ã fun x=>by kernel_rfl
def abX [LC]:ZP 248 MP:=zt (VS _) (À WM (À alO (À af0 (À af6 Ã)))) rfl Ã fun x=>by kernel_rfl
def af4 [LC]:ZP 249 Tp:=zt (YY _) Ã rfl Ã fun x=>by kernel_rfl
def ajn [LC]:ZP 298 X3:=zt (abh _) Ã rfl Ã fun x=>by kernel_rfl
def af7 [LC]:ZP 250 Ts:=zt (Y5 _) (À ajn Ã) rfl Ã fun x=>by kernel_rfl
def an1 [LC]:ZP 299 ag4:=zt (ahH _) Ã rfl Ã fun x=>by kernel_rfl
def ajp [LC]:ZP 251 X5:=zt (abj _) (À an1 Ã) rfl Ã fun x=>by kernel_rfl
def ajj [LC]:ZP 192 XX:=zt (abg _) (À abX (À af4 (À af7 (À ajp Ã)))) rfl Ã fun x=>by kernel_rfl
def alM [LC]:ZP 109 acN:=zt (Ak _) (À I1 (À ajm (À af3 (À WM (À ajj Ã))))) rfl (À Ry (À Rz (À Rx Ã))) fun x=>by kernel_rfl
def UO [LC]:ZP 45 HW:=zt (kM _) (À sv (À af1 (À ajf (À afZ (À afX (À WN (À Mj (À uS (À I1 (À alM Ã)))))))))) rfl (À Lc (À La (À Lb (À K9 Ã)))) fun x=>RK x some
def alL [LC]:ZP 46 acM:=zt (Aj _) (À uS (À I2 (À zO Ã))) rfl (À Rp (À Ro (À Rn Ã))) fun x=>by kernel_rfl
def UL [LC]:ZP 13 HT:=zt (yC _) (À UO (À alL (À QA Ã))) rfl (À KK (À KL Ã)) fun x=>by kernel_rfl
def ab2 [LC]:ZP 112 MT:=zt (lV _) (À qA (À ł Ã)) rfl (À Iy (À Iw (À Iv Ã))) fun x=>Pp x some
def afT [LC]:ZP 48 Td:=zt (YD _) (À ab2 Ã) rfl Ã fun x=>by kernel_rfl
def alI [LC]:ZP 14 acJ:=zt (TI _) (À Τ (À afT Ã)) rfl (À Rf Ã) fun x=>by kernel_rfl
noncomputable def I3 [LC] {a:Int->rF ByteArray} (b:Ķ Tryz.prog 57 ⟨[tI],[.str],fun(x:Int)=>a x⟩):Ķ Tryz.prog 57 ⟨[tI],[.str],fun(x:Int)=>δ a x some⟩:=LU (p:=⟨[tI],[.str],fun(x:Int)=>δ a x some⟩) (Ÿ a _) (fun {_}=>libN (À b Ã) _) hmix (tab:=wF a _) rfl (À FU Ã) (iA fun x=>K8 x some)
def wS [LC]:∀n:Nat,Ķ Tryz.prog 57 ⟨[tI],[.str],fun(x:Int)=>mR n x⟩
 |0=>by intro _ _ _ h; cases h
 |n+1=>I3 (wS n)
def Kg [LC]:Ķ Tryz.prog 57 xE:=wS 100
def ajg [LC]:ZP 124 XU:=zt (N6 _) (À Kg Ã) rfl (À N5 Ã) fun x=>by kernel_rfl
def UN [LC]:ZP 56 HV:=zt (kL _) (À ajg Ã) rfl (À KW (À KV (À KU (À KT (À KS Ã))))) fun x=>by kernel_rfl
def UK [LC]:ZP 17 HS:=zt (yw _) (À UN (À Kg Ã)) rfl (À KH (À KI Ã)) fun x=>by kernel_rfl
def UM [LC]:ZP 51 HU:=zt (JL _) Ã rfl (À KR Ã) fun x=>by kernel_rfl
def aab [LC]:ZP 52 Jl:=zt (sM _) Ã rfl (À FB (À FC Ã)) fun x=>by kernel_rfl
def Qz [LC]:ZP 253 Dc:=zt (FJ _) Ã rfl (À Ie Ã) fun x=>by kernel_rfl
def aad [LC]:ZP 196 Jn:=zt (sN _) (À Qz Ã) rfl (À FI (À FH Ã)) fun x=>by kernel_rfl
def afY [LC]:ZP 197 Ti:=zt (JJ _) (À Qz Ã) rfl (À KM Ã) fun x=>by kernel_rfl
def af2 [LC]:ZP 53 Tm:=zt (JM _) (À UO (À UM (À UN (À aad (À afY Ã))))) rfl (À KX Ã) fun x=>by kernel_rfl
def afW [LC]:ZP 15 Tg:=zt (JH _) (À UL (À UK (À UM (À aab (À af2 Ã))))) rfl (À KJ Ã) fun x=>by kernel_rfl
end Go.Proofs.ZzM
end
