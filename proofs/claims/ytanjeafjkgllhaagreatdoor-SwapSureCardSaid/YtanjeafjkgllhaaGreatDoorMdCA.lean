/- lemmas -/
import Derived.Test.YtanjeafjkgllhaaGreatDoorAmE
import Derived.Test.YtanjeafjkgllhaaGreatDoorAmF
import Derived.Test.YtanjeafjkgllhaaGreatDoorAmD
import Derived.Ground.NamesProg
import Derived.Ground.Names2Prog
import Derived.KernelRfl
import Derived.Test.YtanjeafjkgllhaaGreatDoorMdMA
import Derived.Shelf.Small.Strs
import Derived.Shelf.Strconv.Itoa3
import Derived.Shelf.Strconv.AtoiAll
import Derived.Shelf.Strings.Prefix
import Derived.Shelf.Strings.Split
import Derived.Shelf.Strings.OnBuilder
import Derived.Shelf.Strings.Search3
import Derived.Test.YtanjeafjkgllhaaGreatDoorAmC
import Derived.RangeFuncLeaves
import Derived.WalkKit
import Derived.OwnWalkIn
import Derived.TacticsInMore
import Derived.LoopNIn
import Derived.LoopIn
import Derived.Test.YtanjeafjkgllhaaGreatDoorMdKC
import Derived.Test.YtanjeafjkgllhaaGreatDoorMdPA
import Derived.RangeFuncBox
import Derived.Lib.SliceRun
import Derived.Test.YtanjeafjkgllhaaGreatDoorProg
import Derived.RangeFuncFrom
import Derived.RangeFuncRecord
import Derived.Laws.CopyRow
import Derived.Laws.IdiomCopy
import Derived.Test.YtanjeafjkgllhaaGreatDoorAmA
import Derived.Test.YtanjeafjkgllhaaGreatDoorMdKB
import Derived.Test.YtanjeafjkgllhaaGreatDoorMdKA
set_option linter.all false
noncomputable section
namespace Go.Proofs
open Go.Shelf
def Tryz.laysSort_ren:Go.Shelf.Ren:=⟨fun|189=>137|125=>219|257=>218|128=>277|129=>278|294=>268|295=>269|296=>270|297=>271|298=>272|299=>273|216=>274|300=>275|301=>276|328=>307|329=>308|330=>309|331=>310|332=>311|215=>213|343=>323|n=>n,fun|28=>41|3=>3|46=>226|0=>0|51=>282|53=>288|4=>4|183=>318|182=>317|131=>185|5=>5|9=>9|218=>355|222=>359|228=>369|229=>370|n=>n,fun|n=>n⟩
def Tryz.laysSort:Go.Proofs.Lays.n189 Tryz.prog Tryz.laysSort_ren:={
 mixed:=by kernel_rfl
 f125:=Tryz.func219.trans (congrArg some (by kernel_rfl))
 f128:=Tryz.func277.trans (congrArg some (by kernel_rfl))
 f129:=Tryz.func278.trans (congrArg some (by kernel_rfl))
 f189:=Tryz.func137.trans (congrArg some (by kernel_rfl))
 f215:=Tryz.func213.trans (congrArg some (by kernel_rfl))
 f216:=Tryz.func274.trans (congrArg some (by kernel_rfl))
 f257:=Tryz.func218.trans (congrArg some (by kernel_rfl))
 f294:=Tryz.func268.trans (congrArg some (by kernel_rfl))
 f295:=Tryz.func269.trans (congrArg some (by kernel_rfl))
 f296:=Tryz.func270.trans (congrArg some (by kernel_rfl))
 f297:=Tryz.func271.trans (congrArg some (by kernel_rfl))
 f298:=Tryz.func272.trans (congrArg some (by kernel_rfl))
 f299:=Tryz.func273.trans (congrArg some (by kernel_rfl))
 f300:=Tryz.func275.trans (congrArg some (by kernel_rfl))
 f301:=Tryz.func276.trans (congrArg some (by kernel_rfl))
 f328:=Tryz.func307.trans (congrArg some (by kernel_rfl))
 f329:=Tryz.func308.trans (congrArg some (by kernel_rfl))
 f330:=Tryz.func309.trans (congrArg some (by kernel_rfl))
 f331:=Tryz.func310.trans (congrArg some (by kernel_rfl))
 f332:=Tryz.func311.trans (congrArg some (by kernel_rfl))
 f343:=Tryz.func323.trans (congrArg some (by kernel_rfl))
 t0:=Tryz.underlying0
 a0:=Tryz.isAgg0
 z0:=Tryz.sizeOf0
 v0:=Tryz.zeroValue0
 t3:=Tryz.underlying3
 a3:=Tryz.isAgg3
 z3:=Tryz.sizeOf3
 v3:=Tryz.zeroValue3
 t4:=Tryz.underlying4
 a4:=Tryz.isAgg4
 z4:=Tryz.sizeOf4
 v4:=Tryz.zeroValue4
 t5:=Tryz.underlying5
 a5:=Tryz.isAgg5
 z5:=Tryz.sizeOf5
 v5:=Tryz.zeroValue5
 t9:=Tryz.underlying9
 a9:=Tryz.isAgg9
 z9:=Tryz.sizeOf9
 v9:=Tryz.zeroValue9
 t28:=Tryz.underlying41
 a28:=Tryz.isAgg41
 z28:=Tryz.sizeOf41
 v28:=Tryz.zeroValue41
 t46:=Tryz.underlying226
 a46:=Tryz.isAgg226
 z46:=Tryz.sizeOf226
 v46:=Tryz.zeroValue226
 t51:=Tryz.underlying282
 a51:=Tryz.isAgg282
 z51:=Tryz.sizeOf282
 v51:=Tryz.zeroValue282
 t53:=Tryz.underlying288
 a53:=Tryz.isAgg288
 z53:=Tryz.sizeOf288
 v53:=Tryz.zeroValue288
 t131:=Tryz.underlying185
 a131:=Tryz.isAgg185
 z131:=Tryz.sizeOf185
 v131:=Tryz.zeroValue185
 t182:=Tryz.underlying317
 a182:=Tryz.isAgg317
 z182:=Tryz.sizeOf317
 v182:=Tryz.zeroValue317
 t183:=Tryz.underlying318
 a183:=Tryz.isAgg318
 z183:=Tryz.sizeOf318
 v183:=Tryz.zeroValue318
 t218:=Tryz.underlying355
 a218:=Tryz.isAgg355
 z218:=Tryz.sizeOf355
 v218:=Tryz.zeroValue355
 t222:=Tryz.underlying359
 a222:=Tryz.isAgg359
 z222:=Tryz.sizeOf359
 v222:=Tryz.zeroValue359
 t228:=Tryz.underlying369
 a228:=Tryz.isAgg369
 z228:=Tryz.sizeOf369
 v228:=Tryz.zeroValue369
 t229:=Tryz.underlying370
 a229:=Tryz.isAgg370
 z229:=Tryz.sizeOf370
 v229:=Tryz.zeroValue370}
def Tryz.laysCompact_ren:Go.Shelf.Ren:=⟨fun|20=>260|n=>n,fun|22=>41|3=>3|4=>4|0=>0|n=>n,fun|n=>n⟩
def Tryz.laysCompact:Go.Proofs.Lays2.n20 Tryz.prog Tryz.laysCompact_ren:={
 mixed:=by kernel_rfl
 f20:=Tryz.func260.trans (congrArg some (by kernel_rfl))
 t0:=Tryz.underlying0
 a0:=Tryz.isAgg0
 z0:=Tryz.sizeOf0
 v0:=Tryz.zeroValue0
 t3:=Tryz.underlying3
 a3:=Tryz.isAgg3
 z3:=Tryz.sizeOf3
 v3:=Tryz.zeroValue3
 t4:=Tryz.underlying4
 a4:=Tryz.isAgg4
 z4:=Tryz.sizeOf4
 v4:=Tryz.zeroValue4
 t22:=Tryz.underlying41
 a22:=Tryz.isAgg41
 z22:=Tryz.sizeOf41
 v22:=Tryz.zeroValue41
 i3:=by kernel_rfl}
def Tryz.laysIndexByte_ren:Go.Shelf.Ren:=⟨fun|137=>83|217=>155|266=>228|n=>n,fun|9=>9|5=>5|3=>3|n=>n,fun|n=>n⟩
def Tryz.laysIndexByte:Go.Proofs.Lays.n137 Tryz.prog Tryz.laysIndexByte_ren:={
 mixed:=by kernel_rfl
 f137:=Tryz.func83.trans (congrArg some (by kernel_rfl))
 f217:=Tryz.func155.trans (congrArg some (by kernel_rfl))
 f266:=Tryz.func228.trans (congrArg some (by kernel_rfl))
 t3:=Tryz.underlying3
 a3:=Tryz.isAgg3
 z3:=Tryz.sizeOf3
 v3:=Tryz.zeroValue3
 t5:=Tryz.underlying5
 a5:=Tryz.isAgg5
 z5:=Tryz.sizeOf5
 v5:=Tryz.zeroValue5
 t9:=Tryz.underlying9
 a9:=Tryz.isAgg9
 z9:=Tryz.sizeOf9
 v9:=Tryz.zeroValue9}
def Tryz.laysItoa_ren:Go.Shelf.Ren:=⟨fun|171=>37|243=>90|246=>180|283=>238|284=>239|285=>240|286=>241|129=>278|317=>290|318=>291|319=>292|320=>293|337=>316|338=>317|n=>n,fun|3=>3|9=>9|2=>2|4=>4|171=>296|0=>0|53=>288|37=>189|5=>5|173=>299|212=>339|51=>282|20=>20|213=>340|46=>226|232=>378|233=>379|n=>n,fun|17=>3|18=>6|19=>7|n=>n⟩
def Tryz.laysItoa:Go.Proofs.LaysM.n171 Tryz.prog Tryz.laysItoa_ren:={
 mixed:=by kernel_rfl
 f129:=Tryz.func278.trans (congrArg some (by kernel_rfl))
 f171:=Tryz.func37.trans (congrArg some (by kernel_rfl))
 f243:=Tryz.func90.trans (congrArg some (by kernel_rfl))
 f246:=Tryz.func180.trans (congrArg some (by kernel_rfl))
 f283:=Tryz.func238.trans (congrArg some (by kernel_rfl))
 f284:=Tryz.func239.trans (congrArg some (by kernel_rfl))
 f285:=Tryz.func240.trans (congrArg some (by kernel_rfl))
 f286:=Tryz.func241.trans (congrArg some (by kernel_rfl))
 f317:=Tryz.func290.trans (congrArg some (by kernel_rfl))
 f318:=Tryz.func291.trans (congrArg some (by kernel_rfl))
 f319:=Tryz.func292.trans (congrArg some (by kernel_rfl))
 f320:=Tryz.func293.trans (congrArg some (by kernel_rfl))
 f337:=Tryz.func316.trans (congrArg some (by kernel_rfl))
 f338:=Tryz.func317.trans (congrArg some (by kernel_rfl))
 t0:=Tryz.underlying0
 a0:=Tryz.isAgg0
 z0:=Tryz.sizeOf0
 v0:=Tryz.zeroValue0
 t2:=Tryz.underlying2
 a2:=Tryz.isAgg2
 z2:=Tryz.sizeOf2
 v2:=Tryz.zeroValue2
 t3:=Tryz.underlying3
 a3:=Tryz.isAgg3
 z3:=Tryz.sizeOf3
 v3:=Tryz.zeroValue3
 t4:=Tryz.underlying4
 a4:=Tryz.isAgg4
 z4:=Tryz.sizeOf4
 v4:=Tryz.zeroValue4
 t5:=Tryz.underlying5
 a5:=Tryz.isAgg5
 z5:=Tryz.sizeOf5
 v5:=Tryz.zeroValue5
 t9:=Tryz.underlying9
 a9:=Tryz.isAgg9
 z9:=Tryz.sizeOf9
 v9:=Tryz.zeroValue9
 t20:=Tryz.underlying20
 a20:=Tryz.isAgg20
 z20:=Tryz.sizeOf20
 v20:=Tryz.zeroValue20
 t37:=Tryz.underlying189
 a37:=Tryz.isAgg189
 z37:=Tryz.sizeOf189
 v37:=Tryz.zeroValue189
 t46:=Tryz.underlying226
 a46:=Tryz.isAgg226
 z46:=Tryz.sizeOf226
 v46:=Tryz.zeroValue226
 t51:=Tryz.underlying282
 a51:=Tryz.isAgg282
 z51:=Tryz.sizeOf282
 v51:=Tryz.zeroValue282
 t53:=Tryz.underlying288
 a53:=Tryz.isAgg288
 z53:=Tryz.sizeOf288
 v53:=Tryz.zeroValue288
 t171:=Tryz.underlying296
 a171:=Tryz.isAgg296
 z171:=Tryz.sizeOf296
 v171:=Tryz.zeroValue296
 t173:=Tryz.underlying299
 a173:=Tryz.isAgg299
 z173:=Tryz.sizeOf299
 v173:=Tryz.zeroValue299
 t212:=Tryz.underlying339
 a212:=Tryz.isAgg339
 z212:=Tryz.sizeOf339
 v212:=Tryz.zeroValue339
 t213:=Tryz.underlying340
 a213:=Tryz.isAgg340
 z213:=Tryz.sizeOf340
 t232:=Tryz.underlying378
 a232:=Tryz.isAgg378
 z232:=Tryz.sizeOf378
 v232:=Tryz.zeroValue378
 t233:=Tryz.underlying379
 a233:=Tryz.isAgg379
 z233:=Tryz.sizeOf379
 v233:=Tryz.zeroValue379
 g17:=by kernel_rfl
 g18:=by kernel_rfl
 g19:=by kernel_rfl
 i0:=by kernel_rfl
 i2:=by kernel_rfl
 i3:=by kernel_rfl
 i4:=by kernel_rfl
 i5:=by kernel_rfl
 i9:=by kernel_rfl
 i20:=by kernel_rfl
 i37:=by kernel_rfl
 i46:=by kernel_rfl
 i51:=by kernel_rfl
 i53:=by kernel_rfl
 i171:=by kernel_rfl
 i173:=by kernel_rfl
 i212:=by kernel_rfl
 i232:=by kernel_rfl
 i233:=by kernel_rfl
 m17:=by kernel_rfl
 m18:=by kernel_rfl
 m19:=by kernel_rfl}
def Tryz.laysAtoi_ren:Go.Shelf.Ren:=⟨fun|172=>35|244=>86|245=>87|247=>172|279=>173|280=>174|281=>175|282=>176|287=>233|316=>234|171=>37|205=>235|321=>286|322=>287|243=>90|246=>180|283=>238|284=>239|285=>240|286=>241|129=>278|317=>290|318=>291|319=>292|320=>293|337=>316|338=>317|n=>n,fun|9=>9|3=>3|75=>91|76=>92|4=>4|5=>5|167=>232|37=>189|0=>0|85=>233|2=>2|168=>235|53=>288|175=>289|46=>226|210=>293|127=>295|145=>334|143=>332|21=>21|171=>296|173=>299|212=>339|51=>282|20=>20|213=>340|232=>378|233=>379|80=>242|n=>n,fun|15=>1|16=>2|17=>3|18=>6|19=>7|n=>n⟩
def Tryz.laysAtoi:Go.Proofs.LaysC.n172 Tryz.prog Tryz.laysAtoi_ren:={
 mixed:=by kernel_rfl
 f129:=Tryz.func278.trans (congrArg some (by kernel_rfl))
 f171:=Tryz.func37.trans (congrArg some (by kernel_rfl))
 f172:=Tryz.func35.trans (congrArg some (by kernel_rfl))
 f205:=Tryz.func235.trans (congrArg some (by kernel_rfl))
 f243:=Tryz.func90.trans (congrArg some (by kernel_rfl))
 f244:=Tryz.func86.trans (congrArg some (by kernel_rfl))
 f245:=Tryz.func87.trans (congrArg some (by kernel_rfl))
 f246:=Tryz.func180.trans (congrArg some (by kernel_rfl))
 f247:=Tryz.func172.trans (congrArg some (by kernel_rfl))
 f279:=Tryz.func173.trans (congrArg some (by kernel_rfl))
 f280:=Tryz.func174.trans (congrArg some (by kernel_rfl))
 f281:=Tryz.func175.trans (congrArg some (by kernel_rfl))
 f282:=Tryz.func176.trans (congrArg some (by kernel_rfl))
 f283:=Tryz.func238.trans (congrArg some (by kernel_rfl))
 f284:=Tryz.func239.trans (congrArg some (by kernel_rfl))
 f285:=Tryz.func240.trans (congrArg some (by kernel_rfl))
 f286:=Tryz.func241.trans (congrArg some (by kernel_rfl))
 f287:=Tryz.func233.trans (congrArg some (by kernel_rfl))
 f316:=Tryz.func234.trans (congrArg some (by kernel_rfl))
 f317:=Tryz.func290.trans (congrArg some (by kernel_rfl))
 f318:=Tryz.func291.trans (congrArg some (by kernel_rfl))
 f319:=Tryz.func292.trans (congrArg some (by kernel_rfl))
 f320:=Tryz.func293.trans (congrArg some (by kernel_rfl))
 f321:=Tryz.func286.trans (congrArg some (by kernel_rfl))
 f322:=Tryz.func287.trans (congrArg some (by kernel_rfl))
 f337:=Tryz.func316.trans (congrArg some (by kernel_rfl))
 f338:=Tryz.func317.trans (congrArg some (by kernel_rfl))
 t0:=Tryz.underlying0
 a0:=Tryz.isAgg0
 z0:=Tryz.sizeOf0
 v0:=Tryz.zeroValue0
 t2:=Tryz.underlying2
 a2:=Tryz.isAgg2
 z2:=Tryz.sizeOf2
 v2:=Tryz.zeroValue2
 t3:=Tryz.underlying3
 a3:=Tryz.isAgg3
 z3:=Tryz.sizeOf3
 v3:=Tryz.zeroValue3
 t4:=Tryz.underlying4
 a4:=Tryz.isAgg4
 z4:=Tryz.sizeOf4
 v4:=Tryz.zeroValue4
 t5:=Tryz.underlying5
 a5:=Tryz.isAgg5
 z5:=Tryz.sizeOf5
 v5:=Tryz.zeroValue5
 t9:=Tryz.underlying9
 a9:=Tryz.isAgg9
 z9:=Tryz.sizeOf9
 v9:=Tryz.zeroValue9
 t20:=Tryz.underlying20
 a20:=Tryz.isAgg20
 z20:=Tryz.sizeOf20
 v20:=Tryz.zeroValue20
 t21:=Tryz.underlying21
 a21:=Tryz.isAgg21
 z21:=Tryz.sizeOf21
 v21:=Tryz.zeroValue21
 t37:=Tryz.underlying189
 a37:=Tryz.isAgg189
 z37:=Tryz.sizeOf189
 v37:=Tryz.zeroValue189
 t46:=Tryz.underlying226
 a46:=Tryz.isAgg226
 z46:=Tryz.sizeOf226
 v46:=Tryz.zeroValue226
 t51:=Tryz.underlying282
 a51:=Tryz.isAgg282
 z51:=Tryz.sizeOf282
 v51:=Tryz.zeroValue282
 t53:=Tryz.underlying288
 a53:=Tryz.isAgg288
 z53:=Tryz.sizeOf288
 v53:=Tryz.zeroValue288
 t75:=Tryz.underlying91
 a75:=Tryz.isAgg91
 z75:=Tryz.sizeOf91
 v75:=Tryz.zeroValue91
 t76:=Tryz.underlying92
 a76:=Tryz.isAgg92
 z76:=Tryz.sizeOf92
 v76:=Tryz.zeroValue92
 t85:=Tryz.underlying233
 a85:=Tryz.isAgg233
 z85:=Tryz.sizeOf233
 v85:=Tryz.zeroValue233
 t127:=Tryz.underlying295
 a127:=Tryz.isAgg295
 z127:=Tryz.sizeOf295
 v127:=Tryz.zeroValue295
 t143:=Tryz.underlying332
 a143:=Tryz.isAgg332
 z143:=Tryz.sizeOf332
 v143:=Tryz.zeroValue332
 t145:=Tryz.underlying334
 a145:=Tryz.isAgg334
 z145:=Tryz.sizeOf334
 v145:=Tryz.zeroValue334
 t167:=Tryz.underlying232
 a167:=Tryz.isAgg232
 z167:=Tryz.sizeOf232
 v167:=Tryz.zeroValue232
 t168:=Tryz.underlying235
 a168:=Tryz.isAgg235
 z168:=Tryz.sizeOf235
 v168:=Tryz.zeroValue235
 t171:=Tryz.underlying296
 a171:=Tryz.isAgg296
 z171:=Tryz.sizeOf296
 v171:=Tryz.zeroValue296
 t173:=Tryz.underlying299
 a173:=Tryz.isAgg299
 z173:=Tryz.sizeOf299
 v173:=Tryz.zeroValue299
 t175:=Tryz.underlying289
 a175:=Tryz.isAgg289
 z175:=Tryz.sizeOf289
 v175:=Tryz.zeroValue289
 t210:=Tryz.underlying293
 a210:=Tryz.isAgg293
 z210:=Tryz.sizeOf293
 v210:=Tryz.zeroValue293
 t212:=Tryz.underlying339
 a212:=Tryz.isAgg339
 z212:=Tryz.sizeOf339
 v212:=Tryz.zeroValue339
 t213:=Tryz.underlying340
 a213:=Tryz.isAgg340
 z213:=Tryz.sizeOf340
 t232:=Tryz.underlying378
 a232:=Tryz.isAgg378
 z232:=Tryz.sizeOf378
 v232:=Tryz.zeroValue378
 t233:=Tryz.underlying379
 a233:=Tryz.isAgg379
 z233:=Tryz.sizeOf379
 v233:=Tryz.zeroValue379
 g15:=by kernel_rfl
 g16:=by kernel_rfl
 g17:=by kernel_rfl
 g18:=by kernel_rfl
 g19:=by kernel_rfl
 t80:=Tryz.underlying242
 a80:=Tryz.isAgg242
 z80:=Tryz.sizeOf242
 v80:=Tryz.zeroValue242
 i0:=by kernel_rfl
 i2:=by kernel_rfl
 i3:=by kernel_rfl
 i4:=by kernel_rfl
 i5:=by kernel_rfl
 i9:=by kernel_rfl
 i20:=by kernel_rfl
 i21:=by kernel_rfl
 i37:=by kernel_rfl
 i46:=by kernel_rfl
 i51:=by kernel_rfl
 i53:=by kernel_rfl
 i75:=by kernel_rfl
 i76:=by kernel_rfl
 i80:=by kernel_rfl
 i85:=by kernel_rfl
 i127:=by kernel_rfl
 i143:=by kernel_rfl
 i145:=by kernel_rfl
 i167:=by kernel_rfl
 i168:=by kernel_rfl
 i171:=by kernel_rfl
 i173:=by kernel_rfl
 i175:=by kernel_rfl
 i210:=by kernel_rfl
 i212:=by kernel_rfl
 i232:=by kernel_rfl
 i233:=by kernel_rfl
 m15:=by kernel_rfl
 m16:=by kernel_rfl
 m17:=by kernel_rfl
 m18:=by kernel_rfl
 m19:=by kernel_rfl
 c0:=by kernel_rfl
 c2:=by kernel_rfl
 c3:=by kernel_rfl
 c4:=by kernel_rfl
 c5:=by kernel_rfl
 c9:=by kernel_rfl
 c20:=by kernel_rfl
 c21:=by kernel_rfl
 c37:=by kernel_rfl
 c46:=by kernel_rfl
 c51:=by kernel_rfl
 c53:=by kernel_rfl
 c75:=by kernel_rfl
 c76:=by kernel_rfl
 c80:=by kernel_rfl
 c85:=by kernel_rfl
 c127:=by kernel_rfl
 c143:=by kernel_rfl
 c145:=by kernel_rfl
 c167:=by kernel_rfl
 c168:=by kernel_rfl
 c171:=by kernel_rfl
 c173:=by kernel_rfl
 c175:=by kernel_rfl
 c210:=by kernel_rfl
 c212:=by kernel_rfl
 c213:=by kernel_rfl
 c232:=by kernel_rfl
 c233:=by kernel_rfl}
def Tryz.laysTrimSuffix_ren:Go.Shelf.Ren:=⟨fun|102=>34|209=>85|207=>171|n=>n,fun|9=>9|4=>4|3=>3|n=>n,fun|n=>n⟩
def Tryz.laysTrimSuffix:Go.Proofs.Lays.n102 Tryz.prog Tryz.laysTrimSuffix_ren:={
 mixed:=by kernel_rfl
 f102:=Tryz.func34.trans (congrArg some (by kernel_rfl))
 f207:=Tryz.func171.trans (congrArg some (by kernel_rfl))
 f209:=Tryz.func85.trans (congrArg some (by kernel_rfl))
 t3:=Tryz.underlying3
 a3:=Tryz.isAgg3
 z3:=Tryz.sizeOf3
 v3:=Tryz.zeroValue3
 t4:=Tryz.underlying4
 a4:=Tryz.isAgg4
 z4:=Tryz.sizeOf4
 v4:=Tryz.zeroValue4
 t9:=Tryz.underlying9
 a9:=Tryz.isAgg9
 z9:=Tryz.sizeOf9
 v9:=Tryz.zeroValue9}
def Tryz.laysSplit_ren:Go.Shelf.Ren:=⟨fun|146=>33|221=>84|268=>169|138=>170|143=>30|195=>230|197=>231|218=>232|219=>80|260=>285|217=>155|225=>156|224=>157|267=>158|266=>228|314=>229|n=>n,fun|9=>9|31=>87|3=>3|4=>4|0=>0|105=>286|21=>21|5=>5|46=>226|119=>363|139=>366|138=>365|146=>283|51=>282|n=>n,fun|1=>0|3=>4|4=>5|n=>n⟩
def Tryz.laysSplit:Go.Proofs.Lays.n146 Tryz.prog Tryz.laysSplit_ren:={
 mixed:=by kernel_rfl
 f138:=Tryz.func170.trans (congrArg some (by kernel_rfl))
 f143:=Tryz.func30.trans (congrArg some (by kernel_rfl))
 f146:=Tryz.func33.trans (congrArg some (by kernel_rfl))
 f195:=Tryz.func230.trans (congrArg some (by kernel_rfl))
 f197:=Tryz.func231.trans (congrArg some (by kernel_rfl))
 f217:=Tryz.func155.trans (congrArg some (by kernel_rfl))
 f218:=Tryz.func232.trans (congrArg some (by kernel_rfl))
 f219:=Tryz.func80.trans (congrArg some (by kernel_rfl))
 f221:=Tryz.func84.trans (congrArg some (by kernel_rfl))
 f224:=Tryz.func157.trans (congrArg some (by kernel_rfl))
 f225:=Tryz.func156.trans (congrArg some (by kernel_rfl))
 f260:=Tryz.func285.trans (congrArg some (by kernel_rfl))
 f266:=Tryz.func228.trans (congrArg some (by kernel_rfl))
 f267:=Tryz.func158.trans (congrArg some (by kernel_rfl))
 f268:=Tryz.func169.trans (congrArg some (by kernel_rfl))
 f314:=Tryz.func229.trans (congrArg some (by kernel_rfl))
 t0:=Tryz.underlying0
 a0:=Tryz.isAgg0
 z0:=Tryz.sizeOf0
 v0:=Tryz.zeroValue0
 t3:=Tryz.underlying3
 a3:=Tryz.isAgg3
 z3:=Tryz.sizeOf3
 v3:=Tryz.zeroValue3
 t4:=Tryz.underlying4
 a4:=Tryz.isAgg4
 z4:=Tryz.sizeOf4
 v4:=Tryz.zeroValue4
 t5:=Tryz.underlying5
 a5:=Tryz.isAgg5
 z5:=Tryz.sizeOf5
 v5:=Tryz.zeroValue5
 t9:=Tryz.underlying9
 a9:=Tryz.isAgg9
 z9:=Tryz.sizeOf9
 v9:=Tryz.zeroValue9
 t21:=Tryz.underlying21
 a21:=Tryz.isAgg21
 z21:=Tryz.sizeOf21
 v21:=Tryz.zeroValue21
 t31:=Tryz.underlying87
 a31:=Tryz.isAgg87
 z31:=Tryz.sizeOf87
 v31:=Tryz.zeroValue87
 t46:=Tryz.underlying226
 a46:=Tryz.isAgg226
 z46:=Tryz.sizeOf226
 v46:=Tryz.zeroValue226
 t51:=Tryz.underlying282
 a51:=Tryz.isAgg282
 z51:=Tryz.sizeOf282
 v51:=Tryz.zeroValue282
 t105:=Tryz.underlying286
 a105:=Tryz.isAgg286
 z105:=Tryz.sizeOf286
 v105:=Tryz.zeroValue286
 t119:=Tryz.underlying363
 a119:=Tryz.isAgg363
 z119:=Tryz.sizeOf363
 t138:=Tryz.underlying365
 a138:=Tryz.isAgg365
 z138:=Tryz.sizeOf365
 v138:=Tryz.zeroValue365
 t139:=Tryz.underlying366
 a139:=Tryz.isAgg366
 z139:=Tryz.sizeOf366
 v139:=Tryz.zeroValue366
 t146:=Tryz.underlying283
 a146:=Tryz.isAgg283
 z146:=Tryz.sizeOf283
 v146:=Tryz.zeroValue283
 g1:=by kernel_rfl
 g3:=by kernel_rfl
 g4:=by kernel_rfl}
def Tryz.laysJoin_ren:Go.Shelf.Ren:=⟨fun|156=>89|165=>177|166=>178|169=>179|240=>236|241=>237|276=>288|277=>289|n=>n,fun|31=>87|9=>9|3=>3|4=>4|0=>0|20=>20|72=>240|76=>92|70=>238|37=>189|75=>91|127=>295|164=>335|5=>5|80=>242|n=>n,fun|n=>n⟩
def Tryz.laysJoin:Go.Proofs.Lays.n156 Tryz.prog Tryz.laysJoin_ren:={
 mixed:=by kernel_rfl
 f156:=Tryz.func89.trans (congrArg some (by kernel_rfl))
 f165:=Tryz.func177.trans (congrArg some (by kernel_rfl))
 f166:=Tryz.func178.trans (congrArg some (by kernel_rfl))
 f169:=Tryz.func179.trans (congrArg some (by kernel_rfl))
 f240:=Tryz.func236.trans (congrArg some (by kernel_rfl))
 f241:=Tryz.func237.trans (congrArg some (by kernel_rfl))
 f276:=Tryz.func288.trans (congrArg some (by kernel_rfl))
 f277:=Tryz.func289.trans (congrArg some (by kernel_rfl))
 t0:=Tryz.underlying0
 a0:=Tryz.isAgg0
 z0:=Tryz.sizeOf0
 v0:=Tryz.zeroValue0
 t3:=Tryz.underlying3
 a3:=Tryz.isAgg3
 z3:=Tryz.sizeOf3
 v3:=Tryz.zeroValue3
 t4:=Tryz.underlying4
 a4:=Tryz.isAgg4
 z4:=Tryz.sizeOf4
 v4:=Tryz.zeroValue4
 t9:=Tryz.underlying9
 a9:=Tryz.isAgg9
 z9:=Tryz.sizeOf9
 v9:=Tryz.zeroValue9
 t20:=Tryz.underlying20
 a20:=Tryz.isAgg20
 z20:=Tryz.sizeOf20
 v20:=Tryz.zeroValue20
 t31:=Tryz.underlying87
 a31:=Tryz.isAgg87
 z31:=Tryz.sizeOf87
 v31:=Tryz.zeroValue87
 t37:=Tryz.underlying189
 a37:=Tryz.isAgg189
 z37:=Tryz.sizeOf189
 v37:=Tryz.zeroValue189
 t70:=Tryz.underlying238
 a70:=Tryz.isAgg238
 z70:=Tryz.sizeOf238
 v70:=Tryz.zeroValue238
 t72:=Tryz.underlying240
 a72:=Tryz.isAgg240
 z72:=Tryz.sizeOf240
 v72:=Tryz.zeroValue240
 t75:=Tryz.underlying91
 a75:=Tryz.isAgg91
 z75:=Tryz.sizeOf91
 v75:=Tryz.zeroValue91
 t76:=Tryz.underlying92
 a76:=Tryz.isAgg92
 z76:=Tryz.sizeOf92
 v76:=Tryz.zeroValue92
 t127:=Tryz.underlying295
 a127:=Tryz.isAgg295
 z127:=Tryz.sizeOf295
 v127:=Tryz.zeroValue295
 t164:=Tryz.underlying335
 a164:=Tryz.isAgg335
 z164:=Tryz.sizeOf335
 v164:=Tryz.zeroValue335}
def Tryz.laysIndex_ren:Go.Shelf.Ren:=⟨fun|143=>30|219=>80|217=>155|225=>156|224=>157|267=>158|266=>228|314=>229|n=>n,fun|9=>9|3=>3|4=>4|5=>5|46=>226|146=>283|51=>282|n=>n,fun|1=>0|n=>n⟩
def Tryz.laysIndex:Go.Proofs.Lays.n143 Tryz.prog Tryz.laysIndex_ren:={
 mixed:=by kernel_rfl
 f143:=Tryz.func30.trans (congrArg some (by kernel_rfl))
 f217:=Tryz.func155.trans (congrArg some (by kernel_rfl))
 f219:=Tryz.func80.trans (congrArg some (by kernel_rfl))
 f224:=Tryz.func157.trans (congrArg some (by kernel_rfl))
 f225:=Tryz.func156.trans (congrArg some (by kernel_rfl))
 f266:=Tryz.func228.trans (congrArg some (by kernel_rfl))
 f267:=Tryz.func158.trans (congrArg some (by kernel_rfl))
 f314:=Tryz.func229.trans (congrArg some (by kernel_rfl))
 t3:=Tryz.underlying3
 a3:=Tryz.isAgg3
 z3:=Tryz.sizeOf3
 v3:=Tryz.zeroValue3
 t4:=Tryz.underlying4
 a4:=Tryz.isAgg4
 z4:=Tryz.sizeOf4
 v4:=Tryz.zeroValue4
 t5:=Tryz.underlying5
 a5:=Tryz.isAgg5
 z5:=Tryz.sizeOf5
 v5:=Tryz.zeroValue5
 t9:=Tryz.underlying9
 a9:=Tryz.isAgg9
 z9:=Tryz.sizeOf9
 v9:=Tryz.zeroValue9
 t46:=Tryz.underlying226
 a46:=Tryz.isAgg226
 z46:=Tryz.sizeOf226
 v46:=Tryz.zeroValue226
 t51:=Tryz.underlying282
 a51:=Tryz.isAgg282
 z51:=Tryz.sizeOf282
 v51:=Tryz.zeroValue282
 t146:=Tryz.underlying283
 a146:=Tryz.isAgg283
 z146:=Tryz.sizeOf283
 v146:=Tryz.zeroValue283
 g1:=by kernel_rfl}
end Go.Proofs
end

noncomputable section
namespace Go.Proofs
end Go.Proofs
namespace Go.Proofs.ZzM
open Go Go.Am Go.RowKit
set_option maxRecDepth 100000
end Go.Proofs.ZzM
namespace Go.Proofs
def Tryz.builderX:Builder.Extra Tryz.prog Tryz.laysJoin_ren:=⟨⟨by kernel_rfl,by kernel_rfl⟩,Tryz.underlying5,Tryz.isAgg5,Tryz.sizeOf5,Tryz.zeroValue5,by kernel_rfl,by kernel_rfl,by kernel_rfl,by decide⟩
end Go.Proofs
namespace Go.Proofs.ZzM
open Go Go.Am Go.RowKit
abbrev gMax:Nat:=Tryz.laysSplit_ren.g 1
abbrev gSyn:Nat:=Tryz.laysAtoi_ren.g 15
abbrev gRng:Nat:=Tryz.laysAtoi_ren.g 16
def gMax_lt:gMax<Tryz.prog.globals.size:=of_decide_eq_true (by kernel_rfl)
def agD:gSyn<Tryz.prog.globals.size:=of_decide_eq_true (by kernel_rfl)
def agE:gRng<Tryz.prog.globals.size:=of_decide_eq_true (by kernel_rfl)
abbrev gPow : Nat := (Tryz.prog.globalNamed "internal/strconv.uint64pow10").getD 0
def agG : Tryz.prog.globalNamed "internal/strconv.uint64pow10" = some gPow := by kernel_rfl
def agF:gPow<Tryz.prog.globals.size:=of_decide_eq_true (by kernel_rfl)
def abQ (w:World) (g:Nat):Prop:=∃ev,w.cell? ⟨g,0,none⟩=some ev/\(ev=.nilIface\/∃a b,ev=.iface a b)
structure GlobW (w:World):Prop where
 pow : Lib.TabIs Tryz.prog w "internal/strconv.uint64pow10" .u64 Lib.pow10Tab
 max:∃m,w.cell? ⟨gMax,0,none⟩=some (.int .i64 m)
 syn:abQ w gSyn
 rng:abQ w gRng
 cel:∀b,b<Tryz.prog.globals.size->∃c e r,w.heap[b]?=some (.cells c e r)
def Lm {w w':World} {b:Nat} (h:w'.heap[b]?=w.heap[b]?) (i:Nat):w'.cell? ⟨b,i,none⟩=w.cell? ⟨b,i,none⟩:=by
 unfold World.cell?; simp only[h]
instance:Globs where
 n:=Tryz.prog.globals.size
 Φ:=GlobW
 keep:=fun w w' H a=>by
  obtain⟨c,⟨m,h2⟩,⟨j,h,g⟩,⟨i,f,e⟩,d⟩:=H;refine⟨?_,⟨m,(Lm (a _ gMax_lt) 0).trans h2⟩,⟨j,(Lm (a _ agD) 0).trans h,g⟩,⟨i,(Lm (a _ agE) 0).trans f,e⟩,fun b hb=>by rw[a b hb]; exact d b hb⟩;unfold Lib.TabIs World.var? at c ⊢;rw[agG] at c ⊢;simp only[Option.bind_some] at c ⊢;rw[a _ agF]; exact c
 cel:=fun w H=>H.cel
def Vh (w:World) (t:TypeId) (x:ByteArray):Below w.heap.size w (Lib.bytesWorld w t x):=⟨rfl,rfl,rfl,by rw[Lib.bytesWorld_size]; omega,fun j a=>Lib.bytesWorld_at_old w t x j a⟩
def fItoa:Tryz.laysItoa_ren.f 171=37:=by kernel_rfl
def fTrim:Tryz.laysTrimSuffix_ren.f 102=34:=by kernel_rfl
def fIndex:Tryz.laysIndexByte_ren.f 137=83:=by kernel_rfl
def afo:Tryz.laysSplit_ren.f 146=33:=by kernel_rfl
def fJoin:Tryz.laysJoin_ren.f 156=89:=by kernel_rfl
def BG:Ś Tryz.prog 83 j7:=jc ⟨_,_,Tryz.func83,rfl⟩ fun G x y g w vals i b a=>by
 obtain⟨v1,vs,rfl,h,v2,rfl,h2⟩:=a;rw[xJ h,acP h2];have c:some (Lib.indexByte x.1.data.toList x.2.toNat.toUInt8)=some y:=g;cases c;have:=Any.strings_IndexByte Tryz.laysIndexByte x.1 x.2 w;rw[fIndex] at this;exact this.mono fun e w' ⟨f,d⟩=>⟨_,f,int_arg _ _,by rw[d]; exact Below.refl _ _⟩
def nO:Ś Tryz.prog 34 jx:=jc ⟨_,_,Tryz.func34,rfl⟩ fun G x y a w vals i c b=>by
 obtain⟨v1,vs,rfl,h,v2,rfl,h2⟩:=b;rw[xJ h,xJ h2];have a:ZC x.1 x.2=some y:=a;unfold ZC at a
 split at a<;>cases a
 rename_i f;have:=Any.strings_TrimSuffix Tryz.laysTrimSuffix x.1 x.2 w f;rw[fTrim] at this;exact this.mono fun e w' ⟨g,d⟩=>⟨_,g,OK _,by rw[d]; exact Below.refl _ _⟩
def AM:Ś Tryz.prog 37 rG:=jc ⟨_,_,Tryz.func37,rfl⟩ fun G x y a w vals j c f=>by
 obtain⟨v1,rfl,i⟩:=f;rw[acP i];have a:abt x=some y:=a;unfold abt at a
 split at a<;>cases a
 rename_i d;simp only[i64B,cM,decide_eq_true_eq] at d;have:=Any.strconv_Itoa Tryz.laysItoa x d.1 d.2 w c.pow;rw[fItoa] at this;exact this.mono fun e w' ⟨h, k, os, g⟩ => ⟨_, h, OK _, by rw [g]; exact ⟨rfl, rfl, rfl, by simp [«Sort».grow, World.drewN], fun b hb => by simp [«Sort».grow, World.drewN, eY, hb]⟩⟩
def Lu:Ś Tryz.prog 33 vX:=jc ⟨_,_,Tryz.func33,rfl⟩ fun G x y b w vals j d f=>by
 obtain⟨v1,vs,rfl,k,v2,rfl,h2⟩:=f;rw[xJ k,xJ h2];have b:yZ x.1 x.2=some y:=b;unfold yZ at b
 split at b<;>cases b
 rename_i c;simp only[cM,decide_eq_true_eq] at c;obtain⟨m,h⟩:=d.max;have:=Any.strings_Split Tryz.laysSplit (by kernel_rfl) x.1 x.2 m w c.1 h c.2;rw[afo] at this;have a:=Lib.splitB_all x.2 c.2 0 _ x.1 rfl;exact this.mono fun e w' ⟨i,g⟩=>⟨_,i,by rw[g,<-a]; exact adp (World.alloc_heap_new w _) (fun hb=>absurd (j _ hb) (Nat.lt_irrefl _)) rfl,by rw[g]; exact(Below.refl _ _).alloc (cJ _) _⟩
def Hv:XOk Tryz.prog 33 .split:=show Vm Tryz.prog 33 from⟨⟨_,_,Tryz.func33,rfl⟩,fun w s a y d f=>by
 unfold yZ at f
 split at f<;>cases f
 rename_i c;simp only[cM,decide_eq_true_eq] at c;obtain⟨m,h⟩:=d.max;have:=Any.strings_Split Tryz.laysSplit (by kernel_rfl) s a m w c.1 h c.2;rw[afo] at this;have b:=Lib.splitB_all a c.2 0 _ s rfl
 exact this.mono fun e w' ⟨i,g⟩=>⟨by rw[i,b],_,g⟩⟩
def MX:Ś Tryz.prog 89 ze:=jc ⟨_,_,Tryz.func89,rfl⟩ fun G x y c w vals p i h=>by
 obtain⟨v1,vs,rfl,m,v2,rfl,h2⟩:=h;obtain⟨xs,a⟩:=x;rw[xJ h2];obtain⟨base,cap,rfl,j,k⟩:=aeT m;have c:abq xs a=some y:=c;unfold abq at c
 split at c<;>cases c
 rename_i f;simp only[cM,decide_eq_true_eq] at f;rcases k with rfl|⟨b,o,rfl,hb,hcells⟩
 ·have:=Any.strings_Join_none Tryz.laysJoin Tryz.builderX base cap a w;rw[fJoin] at this;exact this.mono fun e w' ⟨g,d⟩=>⟨_,g,OK _,by rw[d]; exact Below.refl _ _⟩
 ·have:=Any.strings_Join Tryz.laysJoin Tryz.builderX b o cap xs a w hcells hb f.1 j f.2;rw[fJoin] at this;exact this.mono fun e w' ⟨g,d⟩=>⟨_,g,OK _,d⟩
def agK:Tryz.laysAtoi_ren.f 172=35:=by kernel_rfl
def AO:XOk Tryz.prog 35 .atoi:=show ac4 Tryz.prog 35 from⟨⟨_,_,Tryz.func35,rfl⟩,fun w s r a f=>by
 unfold Vi at f
 split at f<;>cases f
 rename_i d;have d:=of_decide_eq_true d
 cases ha:Lib.atoiAll s.data.toList with
 |ok v =>
  have:=Any.strconv_Atoi_ok Tryz.laysAtoi s (by omega) v ha w;rw[agK] at this;refine this.mono fun e w' ⟨c,b⟩=>⟨.nilIface,c,rfl,fun _=>rfl,fun h=>(by cases h),?_⟩;rcases b with rfl|⟨t,rfl⟩
  ·exact Below.refl _ _
  ·exact Vh _ _ _
 | range =>
  obtain⟨ev,g,h2⟩:=a.rng;have:=Any.strconv_Atoi_range Tryz.laysAtoi s d ha ev w g h2;rw[agK] at this
  exact this.mono fun e w' ⟨N,c,_,_,b⟩=>⟨_,c,rfl,fun h=>(by cases h),fun _=>⟨_,_,rfl⟩,b⟩
 | _ =>
  obtain⟨ev,g,h2⟩:=a.syn;have:=Any.strconv_Atoi_syntax Tryz.laysAtoi s d ha ev w g h2;rw[agK] at this;exact this.mono fun e w' ⟨N,c,_,_,b⟩=>⟨_,c,rfl,fun h=>(by cases h),fun _=>⟨_,_,rfl⟩,b⟩⟩
end Go.Proofs.ZzM
end

noncomputable section
namespace Go.Proofs.ZzM
open Go Go.Am Go.RowKit
set_option maxRecDepth 100000
noncomputable def lfC:Code->Code
 |.seq a _=>a
 |_=>.skip
noncomputable def lsC:Code->Code
 |.seq _ b=>b
 |_=>.skip
noncomputable def lbC:Code->Code
 |.block _ b=>b
 |_=>.skip
noncomputable def llC:Code->Code
 |.loop b=>b
 |_=>.skip
noncomputable def liB:Code:=Tryz.f82.body.getD .skip
noncomputable def li0:Code:=lfC (llC (lbC liB))
noncomputable def li1:Code:=lbC (lsC (llC (lbC liB)))
noncomputable def liR:Code:=lfC li1
noncomputable def liM:Code:=lfC (lsC li1)
noncomputable def liY:Code:=lfC (lsC (lsC li1))
noncomputable def liC:Code:=lsC (lsC (lsC li1))
def liB_eq:liB=.block 0 (.loop (.seq li0 (.block 1 (.seq liR (.seq liM (.seq liY liC)))))):=by kernel_rfl
def afg:Tryz.f82.body=some liB:=by kernel_rfl
noncomputable def liE (ρ:Type):Env ρ:={P:=Tryz.prog,eat:=fun _ _=>false,clone:=fun _=>false,sort:=fun _=>false,compact:=fun _=>false,inl:=fun _=>false,fz:=fun _=>false,pure:=PV [(83,j7)],loops:=Ε [],ranges:=Ş []}
abbrev liT:Type:=Exit×AV×AV×AV×w9 Blk×Nat×Bool
def liK (e:Exit) (S:St):w8 liT:=some (e,lk S.t 0,lk S.t 1,lk S.t 3,S.h,S.t.length,true)
def liS (s:ByteArray) (x:AV):St:={t:=[.yld,.box 0 0,.any,x]++List.replicate 21 .any,h:=[.cells [.str s]]}
def li_0 (s:ByteArray):goC (liE liT) (ĺ (liE liT) 10) 82 [] 1 0 li0 (liS s .any) liK=ifb (igt (GP s.size) 0) (some (.normal,.yld,.box 0 0,.any,[.cells [.str s]],25,true)) (some (.exit 0,.yld,.box 0 0,.any,[.cells [.str s]],25,true)):=by kernel_rfl
def li_R (s:ByteArray):goC (liE liT) (ĺ (liE liT) 10) 82 [] 1 1 liR (liS s .any) liK=some (.normal,.yld,.box 0 0,.str ⟨#[]⟩,[.cells [.str s]],25,true):=by kernel_rfl
noncomputable def ad7 (s:ByteArray) (r:Int):w8 liT :=
 ifb (ige r 0) (match decide (0<=Zn (r+1))&&decide (Zn (r+1)<=s.size) with
  |true=>match decide (0<=Zn (r+1))&&decide (Zn (r+1)<=s.size) with
   |true=>some (.normal,.yld,.box 0 0,.str (s.extract 0 (Zn (r+1)).toNat),[.cells [.str (s.extract (Zn (r+1)).toNat s.size)]],25,true)
   |false=>none
  |false=>none) (some (.normal,.yld,.box 0 0,.str s,[.cells [.str ⟨#[]⟩]],25,true))
def li_M (s:ByteArray):goC (liE liT) (ĺ (liE liT) 10) 82 [] 1 1 liM (liS s .any) liK=ad7 s (Lib.indexByte s.data.toList ((10:Int).toNat.toUInt8)):=by kernel_rfl
def li_C (s:ByteArray) (b:Bool):goC (liE liT) (ĺ (liE liT) 10) 82 [] 1 1 liC {(liS s .any) with t:=upd (liS s .any).t 24 (.bool b)} liK=ifb b (some (.ret,.yld,.box 0 0,.any,[.cells [.str s]],25,true)) (some (.normal,.yld,.box 0 0,.any,[.cells [.str s]],25,true)):=by kernel_rfl
noncomputable def liP (k:Nat):String:=match liY with
 | .region _ ops _ => ((ops[k]?).map fun o => o.pos).getD ""
 | _ => ""
def liY_eq:liY=.region 6 #[{dst:=some 21,op:=.move (.tmp 0),type:=153,pos:=liP 0,after:=#[],guard:=none},{dst:=some 22,op:=.move (.tmp 3),type:=9,pos:=liP 1,after:=#[],guard:=none},{dst:=some 23,op:=.call ⟨.value (.tmp 21),#[.tmp 22],#[9]⟩,type:=4,pos:=liP 2,after:=#[⟨0,.data⟩,⟨1,.data⟩],guard:=none},{dst:=some 24,op:=.unOp .not 4 (.tmp 23),type:=4,pos:=liP 3,after:=#[⟨2,.data⟩],guard:=none}] false:=by kernel_rfl
attribute [local go_sem] Oper.semAt_some
set_option maxHeartbeats 1000000 in
def li_Y {l:Nat} {y:ByteArray} {a:Act} {W:World} {R:Ending->World->Prop} {Q:Exit->Act->World->Prop} (h0:a.tmps.getD 0 undef=.func (.yield l) #[] #[]) (h3:a.tmps.getD 3 undef=.string y) (hs:25<=a.tmps.size) (hY:YieldAt Fence.wide 0 Tryz.prog l #[.string y] W R)
 (hR:∀e W',R e W'->∃b,e=.returned (.bool b)/\∀a':Act,a'.defers=a.defers->a'.tmps.size=a.tmps.size->a'.tmps.getD 0 undef=a.tmps.getD 0 undef->a'.tmps.getD 1 undef=a.tmps.getD 1 undef->a'.tmps.getD 24 undef=.bool (!b)->Q .normal a' W'):liY.wpIn Fence.wide 0 Tryz.prog Q a W:=by
 obtain⟨fn,tmps,assign,body,hy,hR2⟩:=hY;obtain⟨T,D⟩:=a;dsimp only at *;rw[liY_eq];rw[Array.getD_eq_getD_getElem?] at h3
 gi_wp2
 rename_i K hK q1;refine⟨rfl,RoundIn.mono (show RoundIn Fence.wide 0 Tryz.prog _ _ _ _ _ _ _ from hR2) fun e W' he=>?_⟩;obtain⟨b,rfl,hb⟩:=hR e W' he;apply hK
 gi_wp2
 refine hb _ rfl (by simp) ?_ ?_ ?_
 ·simp[dt,dL]
 ·simp[dt,dL]
 ·simp[dt,dL,show 24<T.size by omega]
def hmixL:Tryz.prog.follows .mixedOrders=true:=by kernel_rfl
def af8 : (Tryz.prog.funcs.toList.all fun fn => !(fn.name == "runtime.NumGoroutine")) = true := by kernel_rfl
def plainL (f : Nat) (fn : Func) (h : Tryz.prog.funcs[f]? = some fn) : (fn.name == "runtime.NumGoroutine") = false := by
 have:=di.1 af8 fn (cY (i:=f) (by simpa using h));simpa using this
def li_lib [Ghost] (b:Γ (liE liT)):yX (liE liT) where
 pure:=fun f p h=>by
  have a:PV [(83,j7)] f=some p:=h;unfold PV at a
  split at a
  ·rename_i hb;cases a;obtain rfl:=cR hb;exact BG
  ·cases a
 sort:=fun f h=>by cases h
 compact:=fun f h=>by cases h
 plain:=plainL
 clone:=fun g c=>by cases c
 joins:=ě rfl
 yld:=b
 ext:=fun f X h=>by cases h
def aaw [Ghost] {path:w9 Nat} {fid bid:Nat} {b:LI}:kD (liE liT) path fid bid b:=by
 cases b with
 |lp b=>exact fun m S K r ν a w e=>by cases e
 |rf g ps x y=>exact fun m S K r ν a w e=>by cases e
def aff [Ghost]:jB (liE liT) 2 (ĺ (liE liT) 10) :=
 mg (fun {_} b=>li_lib b) (fun L call a=>iV hmixL L call a) (fun n d a _ _ path f fn c _ _ _ z _=>aaw) 10 (cJ _) (Ũ rfl)
def afe:∀(n i:Nat),lk (List.replicate n AV.any) i=.any
 |0,i=>by cases i<;>rfl
 |n+1,0=>rfl
 |n+1,i+1=>afe n i
def agv (s:ByteArray) (i:Nat):lk (liS s .any).t (i+2)=.any:=by
 rcases i with _|_|i
 ·rfl
 ·rfl
 ·exact afe 21 i
structure Vq (n0 l b0:Nat) (s:ByteArray) (a:Act) (W:World):Prop where
 defers:∃ms:w9 Nat,a.defers=ms.map mk1/\ms.Nodup/\∀k∈ms,W.heap[k]?=some (.deferred (some []))/\n0<=k
 size0:n0<=W.heap.size
 size:25<=a.tmps.size
 t0:a.tmps.getD 0 undef=.func (.yield l) #[] #[]
 t1:a.tmps.getD 1 undef=.pointer (some ⟨b0,0,none⟩)
 box:∃te,W.heap[b0]?=some (.cells #[.string s] te (0,0))
 glob:Globs.Φ W
@[reducible] def Gl (n0 l:Nat):Ghost:=⟨fun _=>False,[],none,n0,l,0,.unit,fun _ _ _ _=>False,fun _ _ _ _ _ _ h=>h.elim⟩
def Vq.sim {n0 l b0:Nat} {s:ByteArray} {a:Act} {W:World} (H:Vq n0 l b0 s a W) (c:¬b0<Globs.n):@Sim _ (Gl n0 l) (fun _=>.pointer (some ⟨b0,0,none⟩)) (liS s .any) a W:=by
 letI g:Ghost:=Gl n0 l
 obtain⟨f,hb⟩:=H.box;obtain⟨ms,m1,o,m⟩:=H.defers;refine⟨⟨⟨ms,by rw[m1]; exact(df _).symm,o,fun k r=>m k r⟩,fun l q=>(by cases q),dI _,H.size0⟩,H.size,fun i=>?_,?_⟩
 ·rcases i with _|_|i
  ·exact H.t0
  ·exact⟨[.str s],b0,rfl,rfl,H.t1⟩
  ·rw[agv]; trivial
 ·refine⟨fun i=>?_,fun i j b hi e _ _=>?_,fun _ h=>h.elim,fun _ _ _ _ h=>h,H.glob,fun b d ⟨i,hi,p⟩=>?_⟩
  ·rcases i with _|i
   ·exact⟨b0,#[.string s],f,rfl,hb,⟨⟨rfl,rfl⟩,trivial⟩⟩
   ·rw[show lkB (liS s .any).h (i+1)=.dead from DN _ _ (Nat.succ_le_succ (dI i))]; trivial
  ·rcases i with _|i
   ·rcases j with _|j
    ·rfl
    ·rw[show lkB (liS s .any).h (j+1)=.dead from DN _ _ (Nat.succ_le_succ (dI j))] at e; cases e
   ·rw[show lkB (liS s .any).h (i+1)=.dead from DN _ _ (Nat.succ_le_succ (dI i))] at hi; cases hi
  ·cases p; exact c d
structure GG (b0:Nat) (W W':World):Prop where
 size:W.heap.size<=W'.heap.size
 same:∀b,b<W.heap.size->b≠b0->W'.heap[b]?=W.heap[b]?
 os:W'.os=W.os
 tape:W'.tape=W.tape
 output:W'.output=W.output
noncomputable def Kv {n0 l b0:Nat} {S:St} {s s':ByteArray} {a:Act} {W:World} {c:Code} {bid:Nat} {e:Exit} {x:AV} (m:@Sim _ (Gl n0 l) (fun _=>.pointer (some ⟨b0,0,none⟩)) S a W) (z:S.h=[.cells [.str s]]) (N:n0<=W.heap.size) (r:Ï bid c=[])
 (law:goC (liE liT) (ĺ (liE liT) 10) 82 [] 1 bid c S liK=some (e,.yld,.box 0 0,x,[.cells [.str s']],25,true)) :
 c.wpIn Fence.wide 0 Tryz.prog (fun C t W'=>C=e/\Vq n0 l b0 s' t W'/\(∀y,x=.str y->t.tmps.getD 3 undef=.string y)/\GG b0 W W') a W:=by
 letI g:Ghost:=Gl n0 l
 have k:=pF (aff) (iV hmixL _ _ aff) (path:=[]) rfl c bid S liK (fun _=>.pointer (some ⟨b0,0,none⟩)) a W (by rw[r]; exact fun _ h=>by cases h) law m (by rw[z]; exact cJ 1);rw[PW rfl] at k;refine wpIn_mono k fun C t W' ha=>?_;obtain⟨ν',S',f,d,g3,Z,X⟩:=ha;rw[z] at d;have o:=Option.some.inj X;simp only[Prod.mk.injEq] at o;obtain⟨rfl,k0,L,K,J,Y,_⟩:=o;have j:ν' 0=.pointer (some ⟨b0,0,none⟩):=(d.blk 0 (by decide)).2;have A:=f.heap.blk 0;rw[J] at A;obtain⟨b,c,D,B,h2,V⟩:=A;rw[j] at B;cases B;obtain⟨u,U,T⟩:=V.one;have R:u=.string s':=T.1
 have Q:c=#[.string s']:=by rw[<-dw,U,R]
 rw[Q] at h2;have t0:=f.tmps 0;rw[k0] at t0;have t1:=f.tmps 1;rw[L] at t1;obtain⟨_,b',_,v,E⟩:=t1;rw[j] at v;cases v;obtain⟨⟨ms,m1,H,G⟩,_⟩:=f.defers;have p:=f.tmps 3;rw[K] at p;refine⟨rfl,⟨⟨ms,m1.trans (df _),H,G⟩,by have:=d.size; omega,by have:=f.len; omega,t0,E,⟨D,h2⟩,f.heap.glob⟩,fun y M=>by rw[M] at p; exact p,⟨d.size,fun b hb q=>(d.keep b hb ?_).1,d.os,d.tape,d.output⟩⟩;rintro⟨i,hi,O⟩;cases O;exact q rfl
noncomputable def yd {n0 l b0:Nat} {s s':ByteArray} {a:Act} {W:World} {c:Code} {bid:Nat} {e:Exit} {x:AV} (d:¬b0<Globs.n) (b:Ï bid c=[])
 (law:goC (liE liT) (ĺ (liE liT) 10) 82 [] 1 bid c (liS s .any) liK=some (e,.yld,.box 0 0,x,[.cells [.str s']],25,true)) (H:Vq n0 l b0 s a W) :
 c.wpIn Fence.wide 0 Tryz.prog (fun g f W'=>g=e/\Vq n0 l b0 s' f W'/\(∀y,x=.str y->f.tmps.getD 3 undef=.string y)/\GG b0 W W') a W :=
 Kv (H.sim d) rfl H.size0 b law
def N7 {n:Nat} {s:ByteArray} (h:s.size=0):nN n s=[]:=by
 cases n with
 |zero=>rfl
 |succ n=>unfold nN; rw[if_pos h]
def Vq.sim24 {n0 l b0:Nat} {s:ByteArray} {a:Act} {W:World} {b:Bool} (H:Vq n0 l b0 s a W) (d:¬b0<Globs.n) (hb:a.tmps.getD 24 undef=.bool b):@Sim _ (Gl n0 l) (fun _=>.pointer (some ⟨b0,0,none⟩)) {(liS s .any) with t:=upd (liS s .any).t 24 (.bool b)} a W:=by
 letI g:Ghost:=Gl n0 l
 have c:=H.sim d;refine⟨c.defers,?_,fun i=>?_,c.heap⟩
 ·show(upd (liS s .any).t 24 (.bool b)).length<=_;rw[Fe]; exact c.len
 ·show VR _ _ _ (lk (upd (liS s .any).t 24 (.bool b)) i) _;rw[WH]
  split
  ·rename_i hi;rw[hi.1]; exact hb
  ·exact c.tmps i
def aa6:Ï 0 li0=[]:=by kernel_rfl
def loopsR:Ï 1 liR=[]:=by kernel_rfl
def afc:Ï 1 liM=[]:=by kernel_rfl
def afd:Ï 1 liC=[]:=by kernel_rfl
def res82:Tryz.f82.results=#[]:=by kernel_rfl
noncomputable def GG.trans {b0:Nat} {A B C:World} (h:GG b0 A B) (k:GG b0 B C):GG b0 A C :=
 ⟨cW h.size k.size,fun b hb a=>(k.same b (cX hb h.size) a).trans (h.same b hb a),k.os.trans h.os,k.tape.trans h.tape,k.output.trans h.output⟩
noncomputable def liL:Code:=.seq li0 (.block 1 (.seq liR (.seq liM (.seq liY liC))))
structure LiI (n0 l b0:Nat) (I:w9 ByteArray->World->Prop) (Ix:World->Prop):Prop where
 gn:¬b0<Globs.n
 phi:∀rest W,I rest W->Globs.Φ W
 phx:∀W,Ix W->Globs.Φ W
 hI:∀rest W W' v,I rest W->W.heap.size<=W'.heap.size->(∀b,b<W.heap.size->b≠b0->W'.heap[b]?=W.heap[b]?\/(n0<=b/\∃ds:w8 (w9 Deferred),W.heap[b]?=some (.deferred ds)))->(∃te,W'.heap[b0]?=some (.cells #[v] te (0,0)))->W'.os=W.os->W'.tape=W.tape->W'.output=W.output->I rest W'
 hIx:∀W W' v,Ix W->W.heap.size<=W'.heap.size->(∀b,b<W.heap.size->b≠b0->W'.heap[b]?=W.heap[b]?\/(n0<=b/\∃ds:w8 (w9 Deferred),W.heap[b]?=some (.deferred ds)))->(∃te,W'.heap[b0]?=some (.cells #[v] te (0,0)))->W'.os=W.os->W'.tape=W.tape->W'.output=W.output->Ix W'
 hY:∀y rest W v,I (y::rest) W->(∃te,W.heap[b0]?=some (.cells #[v] te (0,0)))->YieldAt Fence.wide 0 Tryz.prog l #[.string y] W fun e W'=>W.heap.size<=W'.heap.size/\W'.heap[b0]?=W.heap[b0]?/\(∀(k:Nat) (ds:w8 (w9 Deferred)),W.heap[k]?=some (.deferred ds)->W'.heap[k]?=some (.deferred ds))/\((e=.returned (.bool true)/\I rest W')\/(e=.returned (.bool false)/\Ix W'))
section
variable {n0 l b0:Nat} {I:w9 ByteArray->World->Prop} {Ix:World->Prop}
abbrev LiR (b0:Nat) (I:w9 ByteArray->World->Prop) (Ix:World->Prop) (e:Ending) (W':World):Prop:=∃u s',e=.returned u/\(∃te,W'.heap[b0]?=some (.cells #[.string s'] te (0,0)))/\(I [] W'\/Ix W')
abbrev LiQ (b0:Nat) (I:w9 ByteArray->World->Prop) (Ix:World->Prop):Exit->Act->World->Prop:=bodyPostM Fence.wide 0 Tryz.prog Tryz.f82 (LiR b0 I Ix)
noncomputable def LiI.stepI (h:LiI n0 l b0 I Ix) {rest:w9 ByteArray} {s':ByteArray} {a:Act} {W W':World} (hI:I rest W) (k:GG b0 W W') (H:Vq n0 l b0 s' a W'):I rest W' :=
 h.hI rest W W' _ hI k.size (fun b hb c=>.inl (k.same b hb c)) H.box k.os k.tape k.output
def LiI.stepX (h:LiI n0 l b0 I Ix) {s':ByteArray} {a:Act} {W W':World} (hI:Ix W) (k:GG b0 W W') (H:Vq n0 l b0 s' a W'):Ix W' :=
 h.hIx W W' _ hI k.size (fun b hb c=>.inl (k.same b hb c)) H.box k.os k.tape k.output
def abm (h:LiI n0 l b0 I Ix) {s:ByteArray} {a:Act} {W:World} (H:Vq n0 l b0 s a W) (i:I [] W\/Ix W):LeavesInM Fence.wide 0 Tryz.prog Tryz.f82 a.tmps (LiR b0 I Ix) a.defers .returning W:=by
 obtain⟨ms,m1,u,g⟩:=H.defers;obtain⟨f,hb⟩:=H.box;rw[m1];refine nc ms W u (fun k v=>(g k v).1) fun W' t r p o m=>?_
 have j:b0∉ms:=fun e=>by
  have:=(g b0 e).1;rw[hb] at this; cases this
 have d:∀b,b<W.heap.size->b≠b0->W'.heap[b]?=W.heap[b]?\/(n0<=b/\∃x:w8 (w9 Deferred),W.heap[b]?=some (.deferred x)):=fun b _ _=>by
  by_cases e:b∈ms
  ·exact .inr ⟨(g b e).2,_,(g b e).1⟩
  ·exact .inl (m b e)
 have c:W'.heap[b0]?=some (.cells #[.string s] f (0,0)):=(m b0 j).trans hb;refine⟨_,results_none res82 _ _ _,_,s,rfl,⟨f,c⟩,?_⟩;rcases i with q|q
 ·exact .inl (h.hI _ W W' _ q (fu t.symm) d ⟨f,c⟩ r p o)
 ·exact .inr (h.hIx W W' _ q (fu t.symm) d ⟨f,c⟩ r p o)
def YQ:(⟨#[]⟩:ByteArray).size=0:=rfl
noncomputable def abk (h:LiI n0 l b0 I Ix) {n m:Nat} {s y:ByteArray} {a:Act} {W:World} (L:s.size<=n) (N:Ý s.size=true) (H:Vq n0 l b0 s a W) (K:a.tmps.getD 3 undef=.string y) (hI:I (y::nN n s) W)
 (J:∀(b:Act) (W':World),Vq n0 l b0 s b W'->I (nN n s) W'->Code.roundsIn Fence.wide 0 Tryz.prog liL (Exit.inBlock 0 (LiQ b0 I Ix)) m b W') :
 (Code.seq liY liC).wpIn Fence.wide 0 Tryz.prog (Exit.inBlock 1 (Exit.then (Code.roundsIn Fence.wide 0 Tryz.prog liL (Exit.inBlock 0 (LiQ b0 I Ix)) m) (Exit.inBlock 0 (LiQ b0 I Ix)))) a W:=by
 apply wpIn_seq;obtain⟨z,hb⟩:=H.box;refine li_Y H.t0 K H.size (h.hY y _ W _ hI ⟨z,hb⟩) fun e W' d=>?_;obtain⟨M,u,hd,t⟩:=d
 have j:∀b:Act,b.defers=a.defers->b.tmps.size=a.tmps.size->b.tmps.getD 0 undef=a.tmps.getD 0 undef->b.tmps.getD 1 undef=a.tmps.getD 1 undef->Globs.Φ W'->Vq n0 l b0 s b W':=fun b i c g f r=>by
  obtain⟨ms,m1,G,B⟩:=H.defers;exact⟨⟨ms,i.trans m1,G,fun k C=>⟨hd k _ (B k C).1,(B k C).2⟩⟩,cW H.size0 M,by rw[c]; exact H.size,g.trans H.t0,f.trans H.t1,⟨z,u.trans hb⟩,r⟩
 rcases t with⟨rfl,q⟩|⟨rfl,q⟩
 ·refine⟨true,rfl,fun b i c g f v=>?_⟩;have A:=j b i c g f (h.phi _ _ q);have:=Kv (e:=.normal) (x:=.any) (s':=s) (A.sim24 h.gn v) rfl A.size0 afd (li_C s false);refine wpIn_mono this fun c D E ⟨d,o,_,p⟩=>?_;subst d;exact J D E o (h.stepI q p o)
 ·refine⟨false,rfl,fun b i c g f v=>?_⟩;have A:=j b i c g f (h.phx _ q);have:=Kv (e:=.ret) (x:=.any) (s':=s) (A.sim24 h.gn v) rfl A.size0 afd (li_C s true);refine wpIn_mono this fun c D E ⟨d,o,_,p⟩=>?_;subst d;exact abm h o (.inr (h.stepX q p o))
def agA {s:ByteArray} {c:UInt8} (h:0<=Lib.indexByte s.data.toList c):∃k:Nat,Lib.indexByte s.data.toList c=k/\k<s.size:=by
 obtain⟨k,a⟩:=Int.eq_ofNat_of_zero_le h;refine⟨k,a,?_⟩;have:=(Lib.indexByte_some a).1;have h2:=(cQ.1 this).1;simpa using h2
def afD {n:Int} (h0:0<=n) (a:n<=4294967297):Zn n=n:=by
 show IntKind.i64.wrap n=n;rw[IntKind.wrap_i64]; omega
def abl (h:LiI n0 l b0 I Ix):∀(n:Nat) (s:ByteArray) (a:Act) (W:World),s.size<=n->Ý s.size=true->Vq n0 l b0 s a W->I (nN n s) W->Code.roundsIn Fence.wide 0 Tryz.prog liL (Exit.inBlock 0 (LiQ b0 I Ix)) (n+1) a W:=by
 intro n
 induction n with
 |zero =>
  intro s a W G i H hI
  have f:s.size=0:=by omega
  rw[roundsIn_succ];apply wpIn_seq;have law:=li_0 s;rw[show igt (GP s.size) 0=false by rw[lT,f]; rfl] at law;refine wpIn_mono (yd (e:=.exit 0) (x:=.any) (s':=s) h.gn aa6 law H) fun e j W' ⟨c,o,_,k⟩=>?_;subst c;exact abm h o (.inl (h.stepI hI k o))
 |succ n B =>
  intro s a W G i H hI;rw[roundsIn_succ];apply wpIn_seq
  by_cases f:s.size=0
  ·have law:=li_0 s;rw[show igt (GP s.size) 0=false by rw[lT,f]; rfl] at law;rw[N7 f] at hI;refine wpIn_mono (yd (e:=.exit 0) (x:=.any) (s':=s) h.gn aa6 law H) fun e j W' ⟨c,o,_,k⟩=>?_;subst c;exact abm h o (.inl (h.stepI hI k o))
  ·have law:=li_0 s
   have v:igt (GP s.size) 0=true:=by
    rw[lT];exact decide_eq_true (by omega)
   rw[v] at law;refine wpIn_mono (yd (e:=.normal) (x:=.any) (s':=s) h.gn aa6 law H) fun e O R ⟨c,M,_,z⟩=>?_;subst c;apply wpIn_block;apply wpIn_seq;refine wpIn_mono (yd (e:=.normal) (x:=.str ⟨#[]⟩) (s':=s) h.gn loopsR (li_R s) M) fun e N Q ⟨c,D,_,y⟩=>?_;subst c;apply wpIn_seq;have b:=li_M s;have C:s.size<=4294967296:=of_decide_eq_true i;unfold nN at hI;rw[if_neg f] at hI;change goC (liE liT) (ĺ (liE liT) 10) 82 [] 1 1 liM (liS s .any) liK=ad7 s (Lib.indexByte s.data.toList 10) at b
   by_cases p:0<=Lib.indexByte s.data.toList 10
   ·rw[if_pos p] at hI;obtain⟨k,K,J⟩:=agA p;rw[K] at b hI;unfold ad7 at b;have E:Zn ((k:Int)+1)=(k:Int)+1:=afD (by omega) (by omega);rw[E,show ige (k:Int) 0=true from decide_eq_true (by omega),show(decide (0<=(k:Int)+1)&&decide ((k:Int)+1<=s.size))=true by simp; omega] at b
    have g:(s.extract ((k:Int)+1).toNat s.size).size<=n:=by
     rw[ByteArray.size_extract]; omega
    have d:Ý (s.extract ((k:Int)+1).toNat s.size).size=true:=decide_eq_true (by rw[ByteArray.size_extract]; omega);refine wpIn_mono (yd (e:=.normal) (x:=.str (s.extract 0 ((k:Int)+1).toNat)) (s':=s.extract ((k:Int)+1).toNat s.size) h.gn afc b D) fun e a3 L ⟨c,m,t,r⟩=>?_;subst c;exact abk h g d m (t _ rfl) (h.stepI hI (z.trans (y.trans r)) m) fun j W' A q=>B _ j W' g d A q
   ·rw[if_neg p] at hI;unfold ad7 at b;rw[show ige (Lib.indexByte s.data.toList 10) 0=false from decide_eq_false p] at b;have u:nN n ⟨#[]⟩=[]:=N7 YQ;refine wpIn_mono (yd (e:=.normal) (x:=.str s) (s':=⟨#[]⟩) h.gn afc b D) fun e a3 L ⟨c,m,t,r⟩=>?_;subst c;exact abk h (n:=n) (Nat.zero_le _) rfl m (t _ rfl) (by rw[u]; exact h.stepI hI (z.trans (y.trans r)) m) fun j W' A q=>B _ j W' (Nat.zero_le _) rfl A q
end
def nt82:Tryz.f82.ntmps=25:=by kernel_rfl
def afn:Tryz.prog.funcs[82]?=some Tryz.f82:=by kernel_rfl
def ad5 {N:Nat} (c:N=25) {l b0:Nat} {s:ByteArray} {w:World} (hb:∃b,w.heap[b0]?=some (.cells #[.string s] b (0,0))) (a:Globs.Φ w) :
 Vq w.heap.size l b0 s {tmps:=#[.func (.yield l) #[] #[],.pointer (some ⟨b0,0,none⟩)]++Array.replicate (N-(#[.func (.yield l) #[] #[],.pointer (some ⟨b0,0,none⟩)]:Array Value).size) undef,defers:=[]} w:=by
 subst c;exact⟨⟨[],rfl,fo,fun _ h=>by cases h⟩,cJ _,by simp,by simp[dt],by simp[dt],hb,a⟩
def ad6 {P:Program} {f:Nat} {fn:Func} {c:Code} {a:Array Value} {w:World} {R:Ending->World->Prop} (b:P.funcs[f]?=some fn) (hb:fn.body=some c)
 (h:c.wpIn Fence.wide 0 P (bodyPostM Fence.wide 0 P fn R) {tmps:=a++Array.replicate (fn.ntmps-a.size) undef,defers:=[]} w):CallsIn Fence.wide 0 P f a w R :=
 callsIn_of_wp_marks b hb trivial h
def WI:LL Tryz.prog 82 ks where
 ok:=fun s l b0 I Ix w c a b d hI hIx hY h0 hb=>by
  have h:LiI w.heap.size l b0 I Ix:=⟨d,a,b,hI,hIx,hY⟩;have A:=ad5 nt82 (l:=l) hb (a _ _ h0)
  have W:liB.wpIn Fence.wide 0 Tryz.prog (LiQ b0 I Ix) {tmps:=#[.func (.yield l) #[] #[],.pointer (some ⟨b0,0,none⟩)]++Array.replicate (Tryz.f82.ntmps-(#[.func (.yield l) #[] #[],.pointer (some ⟨b0,0,none⟩)]:Array Value).size) undef,defers:=[]} w:=by
   rw[liB_eq];apply wpIn_block;apply wpIn_loop_rounds (s.size+1);exact abl h s.size s _ w (cJ _) c A h0
  exact⟨⟨_,_,afn,afg⟩,ad6 afn afg W⟩
end Go.Proofs.ZzM
end

noncomputable section
namespace Go.Proofs.ZzM
open Go Go.Am Go.RowKit
set_option maxRecDepth 100000
def agJ:Tryz.laysIndex_ren.f 143=30:=by kernel_rfl
def gMaxI:Tryz.laysIndex_ren.g 1=gMax:=by kernel_rfl
def Lv:Ś Tryz.prog 30 vY:=jc ⟨_,_,Tryz.func30,rfl⟩ fun G x y a w vals j b c=>by
 obtain⟨v1,vs,rfl,i,v2,rfl,h2⟩:=c;rw[xJ i,xJ h2];have a:EB x.1 x.2=some y:=a;unfold EB at a
 split at a<;>cases a
 rename_i f;obtain⟨m,g⟩:=b.max;have:=Any.strings_Index Tryz.laysIndex x.1 x.2 m w f (by rw[gMaxI]; exact g);rw[agJ] at this;exact this.mono fun e w' ⟨h,d⟩=>⟨_,h,int_arg _ _,by rw[d]; exact Below.refl _ _⟩
end Go.Proofs.ZzM
end

noncomputable section
namespace Go.Proofs.ZzM
open Go Go.Am
def hmix:Tryz.prog.follows .mixedOrders=true:=by kernel_rfl
def plain_ : (Tryz.prog.funcs.toList.all fun fn => !(fn.name == "runtime.NumGoroutine")) = true := by kernel_rfl
def plain (f : Nat) (fn : Func) (h : Tryz.prog.funcs[f]? = some fn) : (fn.name == "runtime.NumGoroutine") = false := by
 have:=di.1 plain_ fn (cY (i:=f) (by simpa using h));simpa using this
def af4:Tryz.laysSort_ren.f 189=137:=by kernel_rfl
def XR:Tryz.laysCompact_ren.f 20=260:=by kernel_rfl
section
variable [Ghost] {ρ:Type}
def sortOk (f:Nat) (a:SK f=true) (h:w9 Blk) (x:AV) (K:AV->w9 Blk->w8 ρ) (q:ρ) (e:OP h x K=some q) (ν:Nat->Value) (w:World) (u:Value) (H:HR ν h w) (b:VR ν h w x u):En Tryz.prog f ν h w [u] K q:=by
 have c:f=137:=by
  unfold SK at a
  split at a
  ·rfl
  ·cases a
 subst c;have:=afS Tryz.laysSort e H b ⟨_,rfl⟩
 rwa [af4] at this
def ab2 (f:Nat) (a:xv f=true) (h:w9 Blk) (x:AV) (K:AV->w9 Blk->w8 ρ) (q:ρ) (e:om h x K=some q) (ν:Nat->Value) (w:World) (u:Value) (H:HR ν h w) (b:VR ν h w x u):En Tryz.prog f ν h w [u] K q:=by
 have c:f=260:=by
  unfold xv at a
  split at a
  ·rfl
  ·cases a
 subst c;have:=YV Tryz.laysCompact e H b ⟨_,rfl⟩
 rwa [XR] at this
def agZ:FK Tryz.prog KC:=by
 intro g c fz S nid x v d e ν w u H a b hd;unfold KC at c
 split at c
 ·exact uP Tryz.func49 (T:=31) (by kernel_rfl) (by kernel_rfl) e H a b hd
 ·exact uP Tryz.func50 (T:=41) (by kernel_rfl) (by kernel_rfl) e H a b hd
 ·exact uP Tryz.func135 (T:=24) (by kernel_rfl) (by kernel_rfl) e H a b hd
 ·exact uP Tryz.func143 (T:=27) (by kernel_rfl) (by kernel_rfl) e H a b hd
 ·exact uP Tryz.func300 (T:=25) (by kernel_rfl) (by kernel_rfl) e H a b hd
 ·exact uP Tryz.func301 (T:=26) (by kernel_rfl) (by kernel_rfl) e H a b hd
 ·exact uP Tryz.func302 (T:=28) (by kernel_rfl) (by kernel_rfl) e H a b hd
 ·cases c
def vG {c:w9 (Nat×đ)} (h:∀e∈c,Ś Tryz.prog e.1 e.2) (E:Env ρ) (b:E.P=Tryz.prog) (m:E.pure=PV c) (h2:E.sort=SK) (k:E.compact=xv) (j:E.clone=KC) (i:Xz E) (g:∀f X,E.ext f=some X->TG E.P f X) (d:Γ E):yX E:=by
 constructor
 ·intro f p a;rw[m] at a;rw[b];exact h (f,p) (Ol a)
 ·intro f a;rw[h2] at a;rw[b];exact sortOk f a
 ·intro f a;rw[k] at a;rw[b];exact ab2 f a
 ·rw[b]; exact plain
 ·rw[b,j]; exact agZ
 ·exact i
 ·exact d
 ·exact g
def libN [LC] {a:w9 (Nat×đ)} (h:∀e∈a,Ś Tryz.prog e.1 e.2) (tab:w9 (Ĉ ρ)):yX (á a tab):=vG h _ rfl rfl rfl rfl rfl (ě rfl) (jZ rfl) (Ũ rfl)
end
abbrev ZP (f:Nat) (p:đ):Prop:=Ś Tryz.prog f p
def zt [LC] {f:Nat} {p:đ} {a:w9 (Nat×đ)} {tab:w9 (Ĉ (Val (tyL p.rs)))} (E:Env (Val (tyL p.rs))) (c:∀e∈a,Ś Tryz.prog e.1 e.2) (d:E=á a tab) (b:∀x∈tab,x.Ok E) (law:∀x:Val (tyL p.ts),topK E f (UX p.ts x) (fun h v=>Ã (af3 p.rs h v) some)=p.F x):Ś Tryz.prog f p:=by
 subst d;exact OX (á a tab) (fun {_}=>libN c _) hmix (tab:=tab) rfl b (jd law)
set_option maxRecDepth 100000
def lE [LC]:ZP 62 iE:=zt (jA _) Ä rfl (À sS (À sR Ä)) fun x=>by kernel_rfl
noncomputable def MU {n:Nat} (b:jR Tryz.prog ⟨264,(.slice tI),(.slice tI),TN n⟩):jR Tryz.prog ⟨264,(.slice tI),(.slice tI),TN (n+1)⟩:=PI ⟨264,(.slice tI),(.slice tI),TN (n+1)⟩ (fun al=>ù al (TN n) _) rfl (fun _=>rfl) (fun _=>rfl) (fun _ {_} a=>vG (À lE Ä) _ rfl rfl rfl rfl rfl (ě rfl) (jZ rfl) a) hmix (fun al=>DK (E:=ù al (TN n) _) hmix (tab:=vf al (TN n) _) rfl (À Cx Ä) (rtab:=wC al (TN n) _) rfl (À (Cw b) Ä) (À Cv Ä)) (fun m xs h=>(GV m (TN (n+1))).trans (aah h))
def Ef:∀n:Nat,jR Tryz.prog ⟨264,(.slice tI),(.slice tI),TN n⟩
 |0=>⟨rfl,fun _ _ m xs h=>(Nat.not_lt_zero _ (VN (n:=0) (l:=m) (xs:=xs) h).1).elim⟩
 |n+1=>MU (Ef n)
def aca:jR Tryz.prog Kz:=(Ef 10).mono fun _ _ h=>X3 h
noncomputable def Hu {n:Nat} (b:jR Tryz.prog ⟨210,(.slice ī),(.slice (.slice tI)),TO n⟩):jR Tryz.prog ⟨210,(.slice ī),(.slice (.slice tI)),TO (n+1)⟩:=PI ⟨210,(.slice ī),(.slice (.slice tI)),TO (n+1)⟩ (fun al=>ç al (TO n) _) rfl (fun _=>rfl) (fun _=>rfl) (fun _ {_} a=>vG Ä _ rfl rfl rfl rfl rfl (ě rfl) (jZ rfl) a) hmix (fun al=>DK (E:=ç al (TO n) _) hmix (tab:=qG al (TO n) _) rfl Ä (rtab:=sk al (TO n) _) rfl (À (yM b) (À (yQ aca) Ä)) (À yL (À yP Ä))) (fun m xs h=>(CH m (TO (n+1))).trans (U5 h))
def xE:∀n:Nat,jR Tryz.prog ⟨210,(.slice ī),(.slice (.slice tI)),TO n⟩
 |0=>⟨rfl,fun _ _ m xs h=>(Nat.not_lt_zero _ (VO (n:=0) (l:=m) (xs:=xs) h).1).elim⟩
 |n+1=>Hu (xE n)
def Lh:jR Tryz.prog pA:=(xE 10).mono fun _ _ h=>Tk h
def ab9:jR Tryz.prog DR:=PI DR (fun al=>ă al (fun _=>none) _) rfl (fun _=>rfl) (fun _=>rfl) (fun _ {_} a=>vG Ä _ rfl rfl rfl rfl rfl (ě rfl) (jZ rfl) a) hmix (fun _=>HO hmix rfl (À pZ Ä) rfl) (fun m xs h=>(sP m yf).trans (Zu h))
def yC [LC]:ZP 114 sd:=zt (Sn _) Ä rfl Ä fun x=>by kernel_rfl
def mh [LC]:ZP 220 kj:=zt (Si _) Ä rfl Ä fun x=>by kernel_rfl
def Ej [LC]:ZP 200 we:=zt (UG _) (À mh Ä) rfl Ä fun x=>by kernel_rfl
def Xk [LC]:ZP 303 O1:=zt (Yp _) Ä rfl Ä fun x=>by kernel_rfl
def acs [LC]:ZP 304 Ui:=zt (Sd _) Ä rfl (À Pq Ä) fun x=>by kernel_rfl
def Ei [LC]:ZP 254 Cf:=zt (UE _) (À Xk (À acs Ä)) rfl Ä fun x=>by kernel_rfl
def Vc [LC]:ZP 198 IA:=zt (DC _) (À yC (À Ej (À mh (À Ei Ä)))) rfl Ä fun x=>J7 x some
def LA [LC]:ZP 115 wg:=zt (tf _) (À Vc Ä) rfl (À xo Ä) fun x=>by kernel_rfl
def BI [LC]:ZP 116 tS:=zt (Dj _) Ä rfl (À E5 Ä) fun x=>by kernel_rfl
def tJ [LC]:ZP 94 lR:=zt (pp _) Ä rfl (À ug Ä) fun x=>by kernel_rfl
def Ι [LC]:ZP 75 Ő:=zt (vB _) (À tJ Ä) rfl Ä fun x=>by kernel_rfl
def Xl [LC]:ZP 205 O2:=zt (E9 _) (À Ι Ä) rfl (À MP (À MO Ä)) fun x=>by kernel_rfl
def Lz [LC]:ZP 118 Ci:=zt (Bw _) (À Xl Ä) rfl (À J4 (À J5 Ä)) fun x=>by kernel_rfl
def rV [LC]:ZP 201 mi:=zt (Hk _) Ä rfl Ä fun x=>by kernel_rfl
def Vb [LC]:ZP 199 Uk:=zt (Ps _) (À Ej (À rV Ä)) rfl Ä fun x=>by kernel_rfl
def Qa [LC]:ZP 203 O3:=zt (lh _) (À yC (À rV (À mh Ä))) rfl (À Bz (À By Ä)) fun x=>Fc x some
def Oy [LC]:ZP 145 EM:=zt (Gs _) (À mh Ä) rfl (À Hm Ä) fun x=>by kernel_rfl
def H6 [LC]:ZP 146 Cj:=zt (E8 _) (À Ι Ä) rfl (À MN (À MM Ä)) fun x=>by kernel_rfl
def Xm [LC]:ZP 207 O4:=zt (N0 _) (À mh Ä) rfl (À MQ Ä) fun x=>by kernel_rfl
def Hy [LC]:ZP 204 GM:=zt (Ŋ _) (À lE (À yC (À Oy (À H6 (À Ej (À rV (À Xm (À mh Ä)))))))) rfl (À vF (À vD (À vE (À vC Ä)))) fun x=>yT x some
end Go.Proofs.ZzM
end

noncomputable section
namespace Go.Proofs
open Go.RowKit
attribute [local go_sem] Oper.semAt_some
noncomputable def upE (f:Nat->Int) (k:Nat):w9 Int:=(List.range k).map f
def qe (f:Nat->Int) (k:Nat):upE f (k+1)=upE f k++[f k]:=by simp[upE,gP]
def xR (f:Nat->Int) (k:Nat):(upE f k).length=k:=by simp[upE]
def HB (f:Nat->Int) {j k:Nat} (h:j<=k):upE f j <+: upE f k:=by
 have:k=j+(k-j):=by omega
 rw[this,upE,upE,List.range_add,fW];exact dS _ _
set_option maxRecDepth 100000 in
set_option maxHeartbeats 1000000 in
noncomputable def adI (te:TypeId) (n:Nat) (hn:1<=n) (l n₀ bb tb sb:Nat) (flo fhi ga mv:Value) (hbb:bb<n₀) (htb:tb<n₀) (hsb:sb<n₀)
 (ub uo ul uc kb ko kl kc:Nat) (ubase kbase lbase cbase:w8 Addr) (ll lc cl cc:Nat) (hub:0<ul->ubase=some ⟨ub,uo,none⟩/\ub<n₀) (hkb:0<kl->kbase=some ⟨kb,ko,none⟩/\kb<n₀)
 (U K:Nat->Int×Int) (eU eL eC eK:Nat->Int)
 (hul:ul<=1000) (hll:ll<=1000) (hcl:cl<=1000) (hkl:kl<=1000)
 (W:World) (hb0:W.heap[bb]?=some (.cells #[flo,fhi,ga,.slice ubase ul uc,.slice lbase ll lc,.slice cbase cl cc,.slice kbase kl kc] te (0,0)))
 (ht:W.cell? ⟨tb,0,none⟩=some (.func (.func 199) #[] #[.pointer (some ⟨sb,0,none⟩)])) (hs:W.cell? ⟨sb,0,none⟩=some mv)
 (hU:∀j,j<ul->W.cell? ⟨ub,uo+j*2,none⟩=some (.int .i64 (U j).1)/\W.cell? ⟨ub,uo+j*2+1,none⟩=some (.int .i64 (U j).2))
 (hK:∀j,j<kl->W.cell? ⟨kb,ko+j*2,none⟩=some (.int .i64 (K j).1)/\W.cell? ⟨kb,ko+j*2+1,none⟩=some (.int .i64 (K j).2))
 (cU:∀j,j<ul->∀W',Below n₀ W W'->CallsIn Fence.wide (n-1) Tryz.prog 199 #[.int .i64 (U j).1,.int .i64 (U j).2,.pointer (some ⟨sb,0,none⟩)] W' fun e W''=>e=.returned (.int .i64 (eU j))/\W'.grownBy W'' none)
 (cK:∀j,j<kl->∀W',Below n₀ W W'->CallsIn Fence.wide (n-1) Tryz.prog 199 #[.int .i64 (K j).1,.int .i64 (K j).2,.pointer (some ⟨sb,0,none⟩)] W' fun e W''=>e=.returned (.int .i64 (eK j))/\W'.grownBy W'' none)
 (cL:∀j,j<ll->∀W',Below n₀ W W'->CallsIn Fence.wide (n-1) Tryz.prog 203 #[.agg #[flo,fhi,ga,.slice ubase ul uc,.slice lbase ll lc,.slice cbase cl cc,.slice kbase kl kc],mv,.int .i64 j] W' fun e W''=>e=.returned (.int .i64 (eL j))/\W'.grownBy W'' none)
 (cC:∀j,j<cl->∀W',Below n₀ W W'->CallsIn Fence.wide (n-1) Tryz.prog 204 #[.agg #[flo,fhi,ga,.slice ubase ul uc,.slice lbase ll lc,.slice cbase cl cc,.slice kbase kl kc],mv,.int .i64 j] W' fun e W''=>e=.returned (.int .i64 (eC j))/\W'.grownBy W'' none)
 (J Jx:w9 Int->World->Prop) (hJ:∀pre W W',J pre W->W.grownBy W' none->J pre W') (hJx:∀pre W W',Jx pre W->W.grownBy W' none->Jx pre W')
 (hY:∀pre x W,J pre W->pre.length<ul+(ll+(cl+kl))->YieldAt Fence.wide (n-1) Tryz.prog l #[.int .i64 x] W fun e W' =>
  (e=.returned (.bool true)/\J (pre++[x]) W'/\Below n₀ W W')\/(e=.returned (.bool false)/\Jx (pre++[x]) W'))
 (h0 : J [] W) (hn₀ : n₀ <= W.heap.size) :
  CallsIn Fence.wide n Tryz.prog 202 #[.func (.yield l) #[] #[],.pointer (some ⟨bb,0,none⟩),.pointer (some ⟨tb,0,none⟩),.pointer (some ⟨sb,0,none⟩)] W fun e W'=>(∃v,e=.returned v) /\
   ((∃xs,xs=upE eU ul++(upE eL ll++(upE eC cl++upE eK kl))/\J xs W')\/(∃pre,(pre <+: upE eU ul++(upE eL ll++(upE eC cl++upE eK kl)))/\Jx pre W')):=by
 have grown_alloc:∀(X:World) (o:Obj),X.grownBy (X.alloc o) none:=fun X o=>World.grownBy_alloc X o none
 have bel:∀{X Y:World},Below n₀ W X->X.grownBy Y none->Below n₀ W Y:=fun {X Y} h g =>
  ⟨g.os.trans h.os,g.tape.trans h.tape,g.output.trans h.output,cW h.size g.size,fun k hk=>(g.block k (cX (cX hk hn₀) h.size) (by simp)).trans (h.block k hk)⟩
 have hc:∀{X:World},Below n₀ W X->X.heap[bb]?=some (.cells #[flo,fhi,ga,.slice ubase ul uc,.slice lbase ll lc,.slice cbase cl cc,.slice kbase kl kc] te (0,0)):=fun h=>(h.block bb hbb).trans hb0;refine callsIn_of_wp Tryz.func202 rfl trivial ?_ rfl;simp only[Tryz.ntmps202,eT,cV,dk,Nat.reduceAdd,Nat.reduceSub,Array.replicate_succ,Array.replicate_zero,List.push_toArray,gd,dC,dV]
 have hb3:W.cell? ⟨bb,3,none⟩=some (.slice ubase ul uc):=by simp[World.cell?,hb0]
 gi_wp2
 gi_loopw [14] (fun i wr=>∃k:Nat,k<=ul/\i=.int .i64 k/\J (upE eU k) wr/\Below n₀ W wr)
  (fun i _=>ul-(intOf i).toNat)
 case atStart=>exact⟨0,dI _,rfl,h0,Below.refl _ _⟩
 case round =>
  obtain⟨k,hk,rfl,hJs,hnx⟩:=hrel
  by_cases hlt:k<ul
  ·obtain⟨rfl,hlu⟩:=hub (by omega);have hu1:=(hnx.cell (p:=⟨ub,uo+k*2,none⟩) hlu).trans (hU k hlt).1;have hu2:=(hnx.cell (p:=⟨ub,uo+k*2+1,none⟩) hlu).trans (hU k hlt).2;have ht':=(hnx.cell (p:=⟨tb,0,none⟩) htb).trans ht;have hta:∀o,(wr.alloc o).cell? ⟨tb,0,none⟩=some (.func (.func 199) #[] #[.pointer (some ⟨sb,0,none⟩)]):=fun o=>Lib.cell?_alloc_some _ ht'
   gi_wp2
   refine⟨trivial,(cU k hlt _ (bel hnx (grown_alloc _ _))).mono ?_⟩;rintro e W2 ⟨rfl,hg2⟩;obtain⟨fn,tmps,assign,body,hy,hR⟩:=hY _ (eU k) W2 (hJ _ _ _ (hJ _ _ _ hJs (grown_alloc _ _)) hg2) (by rw[xR]; omega);have hb2:=bel (bel hnx (grown_alloc _ _)) hg2
   gi_wp2
   refine hR.mono ?_;rintro e W3 (⟨rfl,hJ3,hk3⟩|⟨rfl,hJx3⟩)
   ·gi_wp2
    go_roundw
    case rel=>exact⟨k+1,by omega,by simp,by rw[qe]; exact hJ3,hb2.trans hk3⟩
    case measure=>simp[intOf]; omega
   ·gi_wp2
    refine bodyPost_ret (results_none rfl _ _ _) rfl ?_;refine⟨⟨_,rfl⟩,.inr ⟨_,?_,hJx3⟩⟩;rw[<-qe];exact(HB eU (by omega)).trans (dS _ _)
  ·obtain rfl:ul=k:=by omega
   have hb4:wr.cell? ⟨bb,4,none⟩=some (.slice lbase ll lc):=by simp[World.cell?,hc hnx]
   gi_wp2
   gi_loopw [31] (fun i wr=>∃k:Nat,k<=ll/\i=.int .i64 k/\J (upE eU ul++upE eL k) wr/\Below n₀ W wr)
    (fun i _=>ll-(intOf i).toNat)
   case atStart=>exact⟨0,dI _,rfl,by simpa[upE] using hJs,hnx⟩
   case round =>
    clear hJs hnx;obtain⟨k,hk,rfl,hJs,hnx⟩:=hrel
    by_cases hlt:k<ll
    ·have q0:wr.cell? ⟨bb,0,none⟩=some flo:=by simp[World.cell?,hc hnx]
     have q1:wr.cell? ⟨bb,1,none⟩=some fhi:=by simp[World.cell?,hc hnx]
     have q2:wr.cell? ⟨bb,2,none⟩=some ga:=by simp[World.cell?,hc hnx]
     have q3:wr.cell? ⟨bb,3,none⟩=some (.slice ubase ul uc):=by simp[World.cell?,hc hnx]
     have q4:wr.cell? ⟨bb,4,none⟩=some (.slice lbase ll lc):=by simp[World.cell?,hc hnx]
     have q5:wr.cell? ⟨bb,5,none⟩=some (.slice cbase cl cc):=by simp[World.cell?,hc hnx]
     have q6:wr.cell? ⟨bb,6,none⟩=some (.slice kbase kl kc):=by simp[World.cell?,hc hnx]
     have hs':=(hnx.cell (p:=⟨sb,0,none⟩) hsb).trans hs
     gi_wp2
     refine⟨trivial,(cL k hlt _ hnx).mono ?_⟩;rintro e W2 ⟨rfl,hg2⟩;obtain⟨fn,tmps,assign,body,hy,hR⟩:=hY _ (eL k) W2 (hJ _ _ _ hJs hg2) (by simp only[cN,xR]; omega);have hb2:=bel hnx hg2
     gi_wp2
     refine hR.mono ?_;rintro e W3 (⟨rfl,hJ3,hk3⟩|⟨rfl,hJx3⟩)
     ·gi_wp2
      go_roundw
      case rel=>exact⟨k+1,by omega,by simp,by rw[qe,<-cS]; exact hJ3,hb2.trans hk3⟩
      case measure=>simp[intOf]; omega
     ·gi_wp2
      refine bodyPost_ret (results_none rfl _ _ _) rfl ?_;refine⟨⟨_,rfl⟩,.inr ⟨_,?_,hJx3⟩⟩;rw[cS,<-qe];exact(eM _).2 ((HB eL (by omega)).trans (dS _ _))
    ·obtain rfl:ll=k:=by omega
     have hb5:wr.cell? ⟨bb,5,none⟩=some (.slice cbase cl cc):=by simp[World.cell?,hc hnx]
     gi_wp2
     gi_loopw [45] (fun i wr=>∃k:Nat,k<=cl/\i=.int .i64 k/\J (upE eU ul++upE eL ll++upE eC k) wr/\Below n₀ W wr)
      (fun i _=>cl-(intOf i).toNat)
     case atStart=>exact⟨0,dI _,rfl,by simpa[upE] using hJs,hnx⟩
     case round =>
      clear hJs hnx;obtain⟨k,hk,rfl,hJs,hnx⟩:=hrel
      by_cases hlt:k<cl
      ·have q0:wr.cell? ⟨bb,0,none⟩=some flo:=by simp[World.cell?,hc hnx]
       have q1:wr.cell? ⟨bb,1,none⟩=some fhi:=by simp[World.cell?,hc hnx]
       have q2:wr.cell? ⟨bb,2,none⟩=some ga:=by simp[World.cell?,hc hnx]
       have q3:wr.cell? ⟨bb,3,none⟩=some (.slice ubase ul uc):=by simp[World.cell?,hc hnx]
       have q4:wr.cell? ⟨bb,4,none⟩=some (.slice lbase ll lc):=by simp[World.cell?,hc hnx]
       have q5:wr.cell? ⟨bb,5,none⟩=some (.slice cbase cl cc):=by simp[World.cell?,hc hnx]
       have q6:wr.cell? ⟨bb,6,none⟩=some (.slice kbase kl kc):=by simp[World.cell?,hc hnx]
       have hs':=(hnx.cell (p:=⟨sb,0,none⟩) hsb).trans hs
       gi_wp2
       refine⟨trivial,(cC k hlt _ hnx).mono ?_⟩;rintro e W2 ⟨rfl,hg2⟩;obtain⟨fn,tmps,assign,body,hy,hR⟩:=hY _ (eC k) W2 (hJ _ _ _ hJs hg2) (by simp only[cN,xR]; omega);have hb2:=bel hnx hg2
       gi_wp2
       refine hR.mono ?_;rintro e W3 (⟨rfl,hJ3,hk3⟩|⟨rfl,hJx3⟩)
       ·gi_wp2
        go_roundw
        case rel=>exact⟨k+1,by omega,by simp,by rw[qe,<-cS]; exact hJ3,hb2.trans hk3⟩
        case measure=>simp[intOf]; omega
       ·gi_wp2
        refine bodyPost_ret (results_none rfl _ _ _) rfl ?_;refine⟨⟨_,rfl⟩,.inr ⟨_,?_,hJx3⟩⟩;rw[cS,<-qe]
        exact by rw[cS]; exact(eM _).2 ((eM _).2 ((HB eC (by omega)).trans (dS _ _)))
      ·obtain rfl:cl=k:=by omega
       have hb6:wr.cell? ⟨bb,6,none⟩=some (.slice kbase kl kc):=by simp[World.cell?,hc hnx]
       gi_wp2
       gi_loopw [59] (fun i wr=>∃k:Nat,k<=kl/\i=.int .i64 k/\J ((upE eU ul++upE eL ll++upE eC cl)++upE eK k) wr/\Below n₀ W wr)
        (fun i _=>kl-(intOf i).toNat)
       case atStart=>exact⟨0,dI _,rfl,by simpa[upE] using hJs,hnx⟩
       case round =>
        clear hJs hnx;obtain⟨k,hk,rfl,hJs,hnx⟩:=hrel
        by_cases hlt:k<kl
        ·obtain⟨rfl,hlk⟩:=hkb (by omega);have hu1:=(hnx.cell (p:=⟨kb,ko+k*2,none⟩) hlk).trans (hK k hlt).1;have hu2:=(hnx.cell (p:=⟨kb,ko+k*2+1,none⟩) hlk).trans (hK k hlt).2;have ht':=(hnx.cell (p:=⟨tb,0,none⟩) htb).trans ht;have hta:∀o,(wr.alloc o).cell? ⟨tb,0,none⟩=some (.func (.func 199) #[] #[.pointer (some ⟨sb,0,none⟩)]):=fun o=>Lib.cell?_alloc_some _ ht'
         gi_wp2
         refine⟨trivial,(cK k hlt _ (bel hnx (grown_alloc _ _))).mono ?_⟩;rintro e W2 ⟨rfl,hg2⟩;obtain⟨fn,tmps,assign,body,hy,hR⟩:=hY _ (eK k) W2 (hJ _ _ _ (hJ _ _ _ hJs (grown_alloc _ _)) hg2) (by simp only[cN,xR]; omega);have hb2:=bel (bel hnx (grown_alloc _ _)) hg2
         gi_wp2
         refine hR.mono ?_;rintro e W3 (⟨rfl,hJ3,hk3⟩|⟨rfl,hJx3⟩)
         ·gi_wp2
          go_roundw
          case rel=>exact⟨k+1,by omega,by simp,by rw[qe,<-cS]; exact hJ3,hb2.trans hk3⟩
          case measure=>simp[intOf]; omega
         ·gi_wp2
          refine bodyPost_ret (results_none rfl _ _ _) rfl ?_;refine⟨⟨_,rfl⟩,.inr ⟨_,?_,hJx3⟩⟩;rw[cS,<-qe,cS,cS];exact(eM _).2 ((eM _).2 ((eM _).2 (HB eK (by omega))))
        ·obtain rfl:kl=k:=by omega
         gi_wp2
         go_end0
         exact⟨⟨_,rfl⟩,.inl ⟨_,rfl,by simpa[cS] using hJs⟩⟩
end Go.Proofs
end

noncomputable section
set_option maxRecDepth 100000
namespace Go.Proofs.ZzM
open Go Go.Am Go.RowKit
variable [LC]
def VL (p:String):Code:=.region 10 #[{dst:=some 5,op:=.assign (.tmp 49),type:=36,pos:=p,after:=#[],guard:=none}] false
def ae6 (q r:String):Code:=.block 1 (.seq (.region 11 #[{dst:=some 50,op:=.move (.tmp 5),type:=36,pos:=q,after:=#[],guard:=none},{dst:=some 51,op:=.binOp .neq 36 (.tmp 50) (.const (.int .i64 0)) 36,type:=4,pos:=q,after:=#[{on:=0,ground:=.data}],guard:=none}] false)
 (.cond (.tmp 51) (.seq (.region 12 #[{dst:=some 52,op:=.move (.tmp 5),type:=36,pos:=r,after:=#[],guard:=none},{dst:=none,op:=.store 36 (.tmp 2) (.tmp 52),type:=0,pos:=r,after:=#[{on:=0,ground:=.data},{on:=0,ground:=.phase}],guard:=none}] false) .ret) .skip))
section
variable {P:Program} {F:Fence} {n:Nat}
def Ck {b:Array Oper} {i d:Nat} {o:Oper} {u:Value} {w w':World} {a:Act} {next:Act->World->Prop} {Q:Exit->Act->World->Prop} (p:∀f,F.fn f) (j:b[i]?=some o) (m:o.guard=none) (hd:o.dst=some d) (g:∀c,o.op≠.defer c)
 (e:(execOp a.eval o).run P w=.ok (.value u) w') (k:next (a.put (some d) u) w'):wpOpIn F n P b Q i next a w:=by
 unfold wpOpIn;rw[j]
 have h:Region.wanted o (yielded b a.tmps)=true:=by simp[Region.wanted,m]
 simp only[h,if_true];refine⟨fun _ _=>p _,?_⟩;rw[Oper.semAt_eq _ _ _ g,e];rw[<-hd] at k;exact k
def X5 {b:Array Oper} {i:Nat} {o:Oper} {w w':World} {a:Act} {next:Act->World->Prop} {Q:Exit->Act->World->Prop} (m:∀f,F.fn f) (h:b[i]?=some o) (j:o.guard=none) (hd:o.dst=none) (e:∀c,o.op≠.defer c)
 (d:(execOp a.eval o).run P w=.ok .skip w') (k:next a w'):wpOpIn F n P b Q i next a w:=by
 unfold wpOpIn;rw[h]
 have g:Region.wanted o (yielded b a.tmps)=true:=by simp[Region.wanted,j]
 simp only[g,if_true];refine⟨fun _ _=>m _,?_⟩;rw[Oper.semAt_eq _ _ _ e,d];show next (a.put o.dst undef) w';rw[hd];exact k
end
def ji (T:Array Value) (i j:Nat) (v:Value):(T.setIfInBounds i v).getD j undef=if i=j/\i<T.size then v else T.getD j undef:=by
 simp only[dt,dL]
 by_cases h:i=j
 ·subst h
  by_cases h2:i<T.size
  ·simp[h2]
  ·simp[h2]
 ·simp[h]
noncomputable def mark (D:Nat):Deferred:={target:=.collected D,args:=#[]}
structure Put1 (n₀ rb:Nat) (x:Int) (w W:World):Prop where
 os:W.os=w.os
 tape:W.tape=w.tape
 output:W.output=w.output
 size:w.heap.size<=W.heap.size
 block:∀k,k<n₀->k≠rb->W.heap[k]?=w.heap[k]?
 cell:∃e,W.heap[rb]?=some (.cells #[.int .i64 x] e (0,0))
set_option maxHeartbeats 4000000 in
def af1 {a:Act} {w:World} {Q:Exit->Act->World->Prop} {lb:Array Value} {L:w9 Int} {rb:Nat} {e0:TypeId} {v0:Value} {p q r:String}
 (R:SeqStopsK Fence.wide 1 Tryz.prog 202 lb (fun x:Int=>#[.int .i64 x]) (Below w.heap.size) (fun xs=>xs=L) (fun i=>i <+: L) L.length w)
 (hg:a.tmps.getD 48 undef=.func (.func 202) #[] lb) (h2:a.tmps.getD 2 undef=.pointer (some ⟨rb,0,none⟩)) (hsz:78<=a.tmps.size)
 (V:w.heap[rb]?=some (.cells #[v0] e0 (0,0)))
 (z:∀D W,(∀x∈L,x=0)->Below w.heap.size w W->w.heap.size<=D->W.heap[D]?=some (.deferred (some []))->Q .normal {a with defers:=mark D::a.defers} W)
 (m:∀D W x,L.find? (fun e=>e != 0)=some x->Put1 w.heap.size rb x w W->w.heap.size<=D->W.heap[D]?=some (.deferred (some []))->Q .ret {a with defers:=mark D::a.defers} W) :
 (Code.rangeFunc (.tmp 48) #[49] (VL p) (ae6 q r)).wpIn Fence.wide 2 Tryz.prog Q a w:=by
 have Y:∀f,Fence.wide.fn f:=fun _=>trivial;have U:=ß V
 refine wpIn_rangeFunc_ownF (α:=Int) (encs:=fun x=>#[.int .i64 x]) (Kp:=Below w.heap.size) (S:=fun xs=>xs=L) (Sp:=fun i=>i <+: L) (N:=L.length) (w0:=w) rfl (by omega) hg trivial (fun args w=>?eg) R
  (fun h k=>h.trans k) (fun W l o o' hl ho hc hw=>belowK_b (cJ _) W l o o' hl ho hc hw) (Below.refl _ _) (fun _=>rfl)
  (fun i W=>(∀x∈i,x=0)/\Below w.heap.size w W)
  (fun c i W=>c=.ret/\∃j x,i=j++[x]/\(∀x∈j,x=0)/\x≠0/\Put1 w.heap.size rb x w W)
  ?hI ?hIx ⟨by simp,Below.refl _ _⟩ (fun x=>{tmps:=(a.tmps.setIfInBounds 49 (.int .i64 x)).setIfInBounds 5 (.int .i64 x),defers:=[]}) ?hassign ?hbody ?z ?m
 case eg=>simp[callFunc,Sem.run_bind,run_program,Result.andThen_ok,Tryz.func202,plain 202 _ Tryz.func202,show Tryz.f202.body.isNone=false from rfl]; rfl
 case hI =>
  intro s W W' row ⟨E,h2⟩ g hr;exact⟨E,g.os.trans h2.os,g.tape.trans h2.tape,g.output.trans h2.output,cW h2.size g.size,fun k A=>(g.block k (cX A h2.size) (fun e=>by have:=(hr k e.symm).1; omega)).trans (h2.block k A)⟩
 case hIx =>
  intro c s W W' row ⟨E,j,x,h3,h4,h5,C⟩ g hr;have hb:∀k,k<w.heap.size->W'.heap[k]?=W.heap[k]?:=fun k A=>g.block k (cX A C.size) (fun e=>by have:=(hr k e.symm).1; omega)
  exact⟨E,j,x,h3,h4,h5,g.os.trans C.os,g.tape.trans C.tape,g.output.trans C.output,cW C.size g.size,fun k A G=>(hb k A).trans (C.block k A G),by
   obtain⟨e,he⟩:=C.cell
   exact⟨e,(hb rb U).trans he⟩⟩
 case hassign =>
  intro l x W K hK
  have hf:((#[49]:Array Tmp).zip #[Value.int .i64 x]).foldl (fun t (p,v)=>t.setIfInBounds p v) a.tmps=a.tmps.setIfInBounds 49 (.int .i64 x):=by simp
  rw[hf];refine wpIn_region ?_;rw[show ∀o:Oper,List.range (#[o]:Array Oper).size=[0] from fun _=>rfl,wpOpsIn_cons];refine Ck (d:=5) (u:=.int .i64 x) (w':=W) Y rfl rfl rfl (by simp) ?_ hK;show Result.ok (Next.value ((a.tmps.setIfInBounds 49 (.int .i64 x)).getD 49 undef)) W=_;rw[ji,if_pos ⟨rfl,by omega⟩]
 case hbody =>
  intro l i x W ⟨E,hbel⟩ hpre;refine wpIn_block (wpIn_seq (wpIn_region ?_));rw[show ∀o p:Oper,List.range (#[o,p]:Array Oper).size=[0,1] from fun _ _=>rfl,wpOpsIn_cons]
  refine Ck (d:=50) (u:=.int .i64 x) (w':=W) Y rfl rfl rfl (by simp) (by
   show Result.ok (Next.value (((a.tmps.setIfInBounds 49 (.int .i64 x)).setIfInBounds 5 (.int .i64 x)).getD 5 undef)) W=_
   rw[ji,if_pos ⟨rfl,by simp; omega⟩]) ?_
  rw[wpOpsIn_cons]
  refine Ck (d:=51) (u:=.bool (x != 0)) (w':=W) Y rfl rfl rfl (by simp) (by
   show((do let u <-(do eqGuard .neq 36 (.tmp 50) (.const (.int .i64 0)) ((((a.tmps.setIfInBounds 49 (.int .i64 x)).setIfInBounds 5 (.int .i64 x)).setIfInBounds 50 (.int .i64 x)).getD 50 undef) (.int .i64 0); binOp .neq 36 ((((a.tmps.setIfInBounds 49 (.int .i64 x)).setIfInBounds 5 (.int .i64 x)).setIfInBounds 50 (.int .i64 x)).getD 50 undef) (.int .i64 0)); pure (.value u)):Sem Next).run Tryz.prog W=_;rw[ji,if_pos ⟨rfl,by simp; omega⟩]
   simp[eqGuard,binOp,Op.intCmp]) ?_
  show Code.wpIn (Fence.wide.inRound l) (2-1-1) Tryz.prog (Code.cond (.tmp 51) _ .skip) _ {tmps:=((((a.tmps.setIfInBounds 49 (.int .i64 x)).setIfInBounds 5 (.int .i64 x)).setIfInBounds 50 (.int .i64 x)).setIfInBounds 51 (.bool (x != 0))),defers:=[]} W;obtain⟨T,B⟩:∃T,T=((((a.tmps.setIfInBounds 49 (.int .i64 x)).setIfInBounds 5 (.int .i64 x)).setIfInBounds 50 (.int .i64 x)).setIfInBounds 51 (.bool (x != 0))):=⟨_,rfl⟩;rw[<-B]
  have M:T.getD 51 undef=.bool (x != 0):=by rw[B,ji,if_pos ⟨rfl,by simp; omega⟩]
  have t5:T.getD 5 undef=.int .i64 x:=by rw[B,ji,if_neg (by simp),ji,if_neg (by simp),ji,if_pos ⟨rfl,by simp; omega⟩]
  have t2:T.getD 2 undef=.pointer (some ⟨rb,0,none⟩):=by rw[B,ji,if_neg (by simp),ji,if_neg (by simp),ji,if_neg (by simp),ji,if_neg (by simp),h2]
  have tsz:78<=T.size:=by rw[B]; simpa using hsz
  clear B
  by_cases Z:x=0
  ·have J:Act.eval {tmps:=T,defers:=[]} (.tmp 51)=.bool false:=M.trans (by simp[Z]);refine wpIn_cond_false J (wpIn_skip ?_);simp only[Exit.inBlock,ownPostK];exact⟨KeepsOthers.refl _,Below.refl _ _,fun y hy=>(cO.1 hy).elim (E y) (fun h=>by rw[cT] at h; rw[h,Z]),hbel⟩
  ·have J:Act.eval {tmps:=T,defers:=[]} (.tmp 51)=.bool true:=M.trans (by simp[Z]);refine wpIn_cond_true J (wpIn_seq (wpIn_region ?_));rw[show ∀o p:Oper,List.range (#[o,p]:Array Oper).size=[0,1] from fun _ _=>rfl,wpOpsIn_cons]
   have e5:(execOp (Act.eval {tmps:=T,defers:=[]}) {dst:=some 52,op:=.move (.tmp 5),type:=36,pos:=r,after:=#[],guard:=none}).run Tryz.prog W=.ok (.value (.int .i64 x)) W:=by
    show Result.ok (Next.value (T.getD 5 undef)) W=_;rw[t5]
   refine Ck (d:=52) (u:=.int .i64 x) (w':=W) Y rfl rfl rfl (by simp) e5 ?_;rw[wpOpsIn_cons];have hW:W.heap[rb]?=some (.cells #[v0] e0 (0,0)):=(hbel.block rb U).trans V
   letI:Ghost:=(Gk (fun _=>False) [] (none))
   have hst:=qg (P:=Tryz.prog) (w:=W) (t:=36) (u:=.int .i64 x) (n:=1) (b:=rb) (o:=0) (by kernel_rfl) rfl hW (by simp) (by simp[Value.cells,Value.oneCell'])
   have O:(storeVar 36 ⟨rb,0,none⟩ (.int .i64 x)).run Tryz.prog W=.ok () (W.setRow rb #[.int .i64 x]):=by simpa[Value.cells] using hst
   have t52:(T.setIfInBounds 52 (.int .i64 x)).getD 52 undef=.int .i64 x:=by rw[ji,if_pos ⟨rfl,by omega⟩]
   have t2':(T.setIfInBounds 52 (.int .i64 x)).getD 2 undef=.pointer (some ⟨rb,0,none⟩):=by rw[ji,if_neg (by simp),t2]
   have e6:(execOp (Act.eval {tmps:=T.setIfInBounds 52 (.int .i64 x),defers:=[]}) {dst:=none,op:=.store 36 (.tmp 2) (.tmp 52),type:=0,pos:=r,after:=#[{on:=0,ground:=.data},{on:=0,ground:=.phase}],guard:=none}).run Tryz.prog W=.ok .skip (W.setRow rb #[.int .i64 x]):=by
    show((do Instr.storeAt 36 ((T.setIfInBounds 52 (.int .i64 x)).getD 2 undef) ((T.setIfInBounds 52 (.int .i64 x)).getD 52 undef); pure .skip):Sem Next).run Tryz.prog W=_;rw[t52,t2'];simp[Instr.storeAt,Instr.sureAddr,O]
   refine X5 (w':=W.setRow rb #[.int .i64 x]) Y rfl rfl rfl (by simp) e6 ?_;refine wpIn_ret ?_;simp only[Exit.inBlock,ownPostK];refine⟨⟨by simp,fun k o A ho=>?_⟩,trivial,i,x,rfl,E,Z,hbel.os,hbel.tape,hbel.output,by simpa using hbel.size,fun k A G=>(setRow_other _ _ _ _ G).trans (hbel.block k A),⟨_,setRow_heap _ _ _ _ _ _ hW⟩⟩
   by_cases X:k=rb
   ·subst X; rw[hW] at A; cases A; simp[Obj.isCells] at ho
   ·rw[setRow_other _ _ _ _ X]; exact A
 case z =>
  intro D xs W hD hS ⟨E,hbel⟩ H;subst hS;exact z D W E hbel hD H
 case m =>
  intro D c i W hD hS ⟨hc,j,x,h3,h4,h5,C⟩ H;subst hc;refine wpIn_ret (m D W x ?_ C hD H);obtain⟨t,rfl⟩:=hS;rw[h3,cS,List.find?_append]
  have:List.find? (fun e=>e != 0) j=none:=eZ.2 fun y hy=>by simp[h4 y hy]
  rw[this];simp[h5]
end Go.Proofs.ZzM
end

noncomputable section
set_option maxRecDepth 100000
namespace Go.Proofs.ZzM
open Go Go.Am Go.RowKit
variable [LC]
noncomputable def fstC:Code->Code
 |.seq a _=>a
 |c=>c
noncomputable def sndC:Code->Code
 |.seq _ b=>b
 |c=>c
noncomputable def aat:Nat->Code->Code
 |0,c=>fstC c
 |n+1,c=>aat n (sndC c)
noncomputable def aeq:Nat->Code->Code
 |0,c=>c
 |n+1,c=>aeq n (sndC c)
noncomputable def ckB:Code:=Tryz.f54.body.getD .skip
noncomputable def ckA5:Code:=fstC (aeq 5 ckB |> fstC)
noncomputable def ckRF:Code:=sndC (aeq 5 ckB |> fstC)
noncomputable def Ov:Code:=sndC (aeq 5 ckB)
noncomputable def ckPre:Code:=.seq (aat 0 ckB) (.seq (aat 1 ckB) (.seq (aat 2 ckB) (.seq (aat 3 ckB) (.seq (aat 4 ckB) ckA5))))
def afw:Tryz.f54.body=some (.seq (aat 0 ckB) (.seq (aat 1 ckB) (.seq (aat 2 ckB) (.seq (aat 3 ckB) (.seq (aat 4 ckB) (.seq (.seq ckA5 ckRF) Ov)))))):=by kernel_rfl
noncomputable def ck_pt:w9 (Nat×đ):=[(118,Ci),(116,tS),(114,sd),(115,wg)]
noncomputable def ckE (ρ:Type):Env ρ:=á ck_pt []
abbrev ckR:Type:=Int ⊕ (w9 AV×w9 Blk)
noncomputable def ab7 (S:St):w8 Int:=match mu Tryz.prog Tryz.f54 S with
 |some v=>af3 [tI] S.h v
 |none=>none
noncomputable def ckK (e:Exit) (S:St):w8 ckR:=match e with
 |.ret=>match ab7 S with
  |some n=>some (.inl n)
  |none=>none
 |.normal=>match decide (78<=S.t.length) with
  |true=>some (.inr ([lk S.t 1,lk S.t 2,lk S.t 48],S.h))
  |false=>none
 |_=>none
noncomputable def ckH (x:b5) (s:ge) (n:Int):w9 Blk :=
 [.cells (flat Ë x),.cells [.int .i64 n],.cells (flat Ë x),.cells [.mp tI Ö s],.cells [.fn (.func 199) [] [.box 3 0]]]
noncomputable def ckM (x:b5):w8 ckR :=
 Ã (ű x.1 (0:Int) (1000000:Int)) fun c=>ifb (!c) (some (.inl 1)) (ifb (igt (Ô x.2.1) (12:Int)) (some (.inl 2)) (ifb (igt (Ô x.2.2.1) (40:Int)) (some (.inl 2)) (ifb (igt (Ô x.2.2.2.1) (12:Int)) (some (.inl 2)) (ifb (igt (Ô x.2.2.2.2.1) (40:Int)) (some (.inl 2)) (ifb (igt (Ô x.2.2.2.2.2) (10:Int)) (some (.inl 2))
  (Ã (Ŧ x) fun a=>ifb (ine a (0:Int)) (some (.inl a)) (Ã (ĸ x) fun b=>some (.inr ([.box 0 0,.box 1 0,.fn (.func 202) [] [.box 2 0,.box 4 0,.box 3 0]],ckH x b 0)))))))))
def ck_pre (x:b5):goC (ckE ckR) (ĺ (ckE ckR) 10) 54 [] 0 0 ckPre {t:=UX [Ë] x++List.replicate 77 .any,h:=[]} ckK=ckM x:=by kernel_rfl
noncomputable def aez (ρ:Type):Env ρ:={ckE ρ with inl:=fun _=>false}
noncomputable def ckS (x:b5):w8 Int :=
 Ã (pK x) fun c=>ifb (igt (Ô c) (59:Int)) (some (2:Int)) (ck ((2:Int)*(Ô x.2.1)) fun n6=>ck ((Ô c)-(Ô x.2.1)) fun f=>ck ((2:Int)*f) fun e=>ck (n6+e) fun d=>ck ((2:Int)*(Ô x.2.2.2.2.1)) fun b=>ck (d+b) fun a=>ifb (igt a (300:Int)) (some (2:Int)) (some (0:Int)))
noncomputable def ckK2 (e:Exit) (S:St):w8 Int:=match e with
 |.ret=>match lk S.t 2 with
  |.box 1 0=>match lkB S.h 1 with
   |.cells [.int .i64 n]=>some n
   |_=>none
  |_=>none
 |_=>none
def ck_suf (x:b5) (s:ge):goC (aez Int) (ĺ (aez Int) 10) 54 [] 0 0 Ov {t:=[.any,.box 0 0,.box 1 0]++List.replicate 75 .any,h:=ckH x s 0} ckK2=ckS x:=by kernel_rfl
def aey (x:b5):ŧ x=match ckM x with
 |none=>none
 |some (.inl n)=>some n
 |some (.inr _)=>Ã (ĸ x) fun s=>QY (nf x s) some (ckS x):=by
 unfold ŧ Ko ckM ckS
 cases ű x.1 (0:Int) (1000000:Int) with
 |none=>rfl
 |some b =>
 cases b with
 |false=>rfl
 |true =>
 simp only[Ã,ifb,dJ]
 cases igt (Ô x.2.1) (12:Int) with
 |true=>rfl
 |false =>
 cases igt (Ô x.2.2.1) (40:Int) with
 |true=>rfl
 |false =>
 cases igt (Ô x.2.2.2.1) (12:Int) with
 |true=>rfl
 |false =>
 cases igt (Ô x.2.2.2.2.1) (40:Int) with
 |true=>rfl
 |false =>
 cases igt (Ô x.2.2.2.2.2) (10:Int) with
 |true=>rfl
 |false =>
 cases Ŧ x with
 |none=>rfl
 |some a =>
 simp only
 cases ine a (0:Int) with
 |true=>rfl
 |false =>
 cases ĸ x with
 |none=>rfl
 |some c=>rfl
def ag2 {x:b5} {q:w9 AV×w9 Blk} (h:ckM x=some (.inr q)):((x.2.2.1:w9 bl).length<=1000/\(x.2.2.2.1:w9 pi).length<=1000/\(x.2.2.2.2.1:w9 gf).length<=1000/\(x.2.2.2.2.2:w9 bl).length<=1000) /\
 ∃s,ĸ x=some s/\q=([.box 0 0,.box 1 0,.fn (.func 202) [] [.box 2 0,.box 4 0,.box 3 0]],ckH x s 0):=by
 unfold ckM at h
 cases h0:ű x.1 (0:Int) (1000000:Int) with
 |none=>rw[h0] at h; cases h
 |some k =>
 rw[h0] at h
 cases k with
 |false=>cases h
 |true =>
 simp only[Ã,ifb,dJ] at h
 cases g:igt (Ô x.2.1) (12:Int) with
 |true=>rw[g] at h; cases h
 |false =>
 rw[g] at h
 cases h2:igt (Ô x.2.2.1) (40:Int) with
 |true=>rw[h2] at h; cases h
 |false =>
 rw[h2] at h
 cases c:igt (Ô x.2.2.2.1) (12:Int) with
 |true=>rw[c] at h; cases h
 |false =>
 rw[c] at h
 cases b:igt (Ô x.2.2.2.2.1) (40:Int) with
 |true=>rw[b] at h; cases h
 |false =>
 rw[b] at h
 cases a:igt (Ô x.2.2.2.2.2) (10:Int) with
 |true=>rw[a] at h; cases h
 |false =>
 rw[a] at h
 cases f:Ŧ x with
 |none=>rw[f] at h; cases h
 |some j =>
 rw[f] at h;simp only at h
 cases e:ine j (0:Int) with
 |true=>rw[e] at h; cases h
 |false =>
 rw[e] at h
 cases d:ĸ x with
 |none=>rw[d] at h; cases h
 |some i =>
 rw[d] at h
 have lt:∀{α:Type} (l:w9 α) (n:Nat),igt (Ô l) (n:Int)=false->l.length<=n:=by
  intro α l n h;unfold Ô at h;rw[lT] at h;simp only[igt,gt_iff_lt,decide_eq_false_iff_not] at h;omega
 simp only[Option.some.injEq,Sum.inr.injEq] at h;exact⟨⟨by have:=lt x.2.2.1 40 h2; omega,by have:=lt x.2.2.2.1 12 c; omega,by have:=lt x.2.2.2.2.1 40 b; omega,by have:=lt x.2.2.2.2.2 10 a; omega⟩,i,rfl,h.symm⟩
def Cq {α β:Type} {f:α->w8 β}:∀{l:w9 α} {m:w9 β},IP f l=some m->m.length=l.length/\∀(i:Nat) (a:α),l[i]?=some a->∃b,m[i]?=some b/\f a=some b
 |[],m,h=>by cases h; exact⟨rfl,fun i a ha=>by simp at ha⟩
 |a::l,m,h=>by
  unfold IP at h
  cases ha:f a with
  |none=>rw[ha] at h; cases h
  |some b =>
   rw[ha] at h
   cases d:IP f l with
   |none=>rw[d] at h; cases h
   |some j =>
    rw[d] at h;cases h;obtain⟨g,h2⟩:=Cq d;refine⟨by simp[g],fun i c e=>?_⟩
    cases i with
    |zero=>simp at e; subst e; exact⟨b,by simp,ha⟩
    |succ i=>simpa using h2 i c (by simpa using e)
def HC (l:w9 Int):upE (fun j=>l[j]?.getD 0) l.length=l:=by
 unfold upE;refine List.ext_getElem (by simp) fun i a h2=>?_;simp at a;simp[a]
def CR.below {a:Nat} {w W:World} {av:Nat->Prop} (hb:Below a w W) (d:w.heap.size<=a) {t:Ty} {x:Val t} {vs:w9 Value} (h:CR w av t x vs):CR W av t x vs :=
 h.keep fun b c ha=>⟨hb.block b (cX c d),ha⟩
def Ih {w:World} {av:Nat->Prop} {xs:w9 (Int×Int)} {v:Value} (h:CR w av (.slice Ç) xs [v]):∃base cap b off,v=.slice base xs.length cap/\(0<xs.length->base=some ⟨b,off,none⟩/\b<w.heap.size) /\
 ∀j,j<xs.length->w.cell? ⟨b,off+j*2,none⟩=some (.int .i64 (xs[j]?.getD (0,0)).1)/\w.cell? ⟨b,off+j*2+1,none⟩=some (.int .i64 (xs[j]?.getD (0,0)).2):=by
 obtain⟨base,cap,e,t,a⟩:=h;cases e;rcases a with a|⟨b,off,hb,f,d,a⟩
 ·refine⟨base,cap,0,0,rfl,fun h=>?_,fun j c=>?_⟩
  ·rw[show xs=[] from a] at h; simp at h
  ·rw[show xs=[] from a] at c; simp at c
 ·refine⟨base,cap,b,off,rfl,fun _=>⟨hb,d⟩,fun j c=>?_⟩;obtain⟨us,k,h2⟩:=a j xs[j] (cI c);obtain⟨u1,u2,p,i,g⟩:=k;have o:u1=[.int .i64 xs[j].1]:=i;have m:u2=[.int .i64 xs[j].2]:=g;subst o m p;have s:(Ç).size=2:=rfl;rw[s] at h2;have r:=h2 0 _ rfl;have q:=h2 1 _ rfl;rw[cI c];exact⟨by simpa using r,by simpa[Nat.add_assoc] using q⟩
end Go.Proofs.ZzM
end

noncomputable section
set_option maxRecDepth 100000
namespace Go.Proofs.ZzM
open Go Go.Am Go.RowKit
variable [LC]
section
variable {w W W':World}
abbrev noG:Nat->Prop:=fun _=>False
def int_arg (w:World) (n:Int):ι w noG tI n (.int .i64 n):=⟨[.int .i64 n],rfl,rfl⟩
def ags {a:Nat} {b:Value} {e:TypeId} {s:ge} (h:w.heap[a]?=some (.cells #[b] e (0,0))) (c:CR w noG (.map tI Ö) s [b]):ι w noG (.ptr (.map tI Ö)) s (.pointer (some ⟨a,0,none⟩)):=by
 letI:Ghost:=(Gk (fun _=>False) [] (none))
 exact⟨[.pointer (some ⟨a,0,none⟩)],⟨a,0,[b],rfl,id,ß h,c,CellsAt.of_cells h⟩,rfl⟩
def af2 {y:Int} {u:Value} (h:RR w noG [tI] y u):u=.int .i64 y:=by
 obtain⟨us,a,rfl⟩:=h;have:us=[.int .i64 y]:=a;rw[this]; rfl
def aei (e:∀b,b<W.heap.size->W'.heap[b]?=W.heap[b]?) (h2:W.heap.size<=W'.heap.size) (d:W'.os=W.os) (c:W'.tape=W.tape) (a:W'.output=W.output):W.grownBy W' none :=
 ⟨d,c,a,h2,fun b hb _=>e b hb⟩
def P4 {f:Nat} {p:đ} (b:Globs.Φ W) (g:Ś Tryz.prog f p) (a:p.rs=[tI]) {x:Val (tyL p.ts)} {y:Int} (d:p.F x=some (a▸(show Val (tyL [tI]) from y))) {vals:w9 Value} (ha:AL W noG p.ts x vals) :
 CallsIn Fence.wide 0 Tryz.prog f vals.toArray W fun e c=>e=.returned (.int .i64 y)/\W.grownBy c none:=by
 obtain⟨ts,rs,F⟩:=p;dsimp only at a d ha x;subst a;refine(g noG x y d W vals (fun _ h=>h.elim) b ha).2.mono fun e w' ⟨u,h0,o,h2,m,k,j,i⟩=>⟨?_,aei h2 m k j i⟩;rw[h0,af2 o]
noncomputable def HT {k:Nat} (h:Globs.Φ w) (hb:Below k w W) (c:w.heap.size<=k):Globs.Φ W :=
 Globs.keep w W h fun b a=>hb.block b (cX (by obtain⟨o,d,_⟩:=Globs.dat w h b a; exact ß d) c)
def Qw (d:Globs.Φ W) {s:ge} {a b y:Int} (j:Ĺ a b s=some y) {c:Nat} {g:Value} {e:TypeId} (h:W.heap[c]?=some (.cells #[g] e (0,0))) (i:CR W noG (.map tI Ö) s [g]) :
 CallsIn Fence.wide 0 Tryz.prog 199 #[.int .i64 a,.int .i64 b,.pointer (some ⟨c,0,none⟩)] W fun e f=>e=.returned (.int .i64 y)/\W.grownBy f none :=
 P4 d Vb rfl (x:=(a,b,s)) (y:=y) j (vals:=[.int .i64 a,.int .i64 b,.pointer (some ⟨c,0,none⟩)]) ⟨_,_,rfl,int_arg _ _,_,_,rfl,int_arg _ _,_,rfl,ags h i⟩
def aaI {a:Value} {s:ge} (b:CR W noG (.map tI Ö) s [a]):ι W noG (.map tI Ö) s a:=⟨[a],b,rfl⟩
def Xp {x:b5} {cs:Array Value} (hb:CR W noG Ë x cs.toList):ι W noG Ë x (.agg cs):=⟨cs.toList,hb,by show Value.agg cs=Value.agg cs.toList.toArray; rw[Array.toArray_toList]⟩
def abb (b:Globs.Φ W) {x:b5} {s:ge} {i y:Int} (f:Ŷ x s i=some y) {a:Value} {cs:Array Value} (hb:CR W noG Ë x cs.toList) (d:CR W noG (.map tI Ö) s [a]) :
 CallsIn Fence.wide 0 Tryz.prog 203 #[.agg cs,a,.int .i64 i] W fun e c=>e=.returned (.int .i64 y)/\W.grownBy c none :=
 P4 b Qa rfl (x:=(x,s,i)) (y:=y) f (vals:=[.agg cs,a,.int .i64 i]) ⟨_,_,rfl,Xp hb,_,_,rfl,aaI d,_,rfl,int_arg _ _⟩
def Tj (b:Globs.Φ W) {x:b5} {s:ge} {i y:Int} (f:Ľ x s i=some y) {a:Value} {cs:Array Value} (hb:CR W noG Ë x cs.toList) (d:CR W noG (.map tI Ö) s [a]) :
 CallsIn Fence.wide 0 Tryz.prog 204 #[.agg cs,a,.int .i64 i] W fun e c=>e=.returned (.int .i64 y)/\W.grownBy c none :=
 P4 b Hy rfl (x:=(x,s,i)) (y:=y) f (vals:=[.agg cs,a,.int .i64 i]) ⟨_,_,rfl,Xp hb,_,_,rfl,aaI d,_,rfl,int_arg _ _⟩
end
def oN {w:World} {av:Nat->Prop} {t:Ty} {xs:w9 (Val t)} {vs:w9 Value} (h:CR w av (.slice t) xs vs):∃base cap,vs=[.slice base xs.length cap]:=by
 obtain⟨base,cap,e,_⟩:=h;exact⟨base,cap,e⟩
def adw {w:World} (B:Globs.Φ w) {x:b5} {s:ge} {G A z E:w9 Int} (h1:IP (fun u=>Ĺ u.1 u.2 s) (x.2.2.1:w9 (Int×Int))=some G) (h2:IP (fun i=>Ŷ x s i) (vJ (x.2.2.2.1:w9 pi).length)=some A)
 (h3:IP (fun i=>Ľ x s i) (vJ (x.2.2.2.2.1:w9 gf).length)=some z) (h4:IP (fun u=>Ĺ u.1 u.2 s) (x.2.2.2.2.2:w9 (Int×Int))=some E)
 (q:(x.2.2.1:w9 bl).length<=1000/\(x.2.2.2.1:w9 pi).length<=1000/\(x.2.2.2.2.1:w9 gf).length<=1000/\(x.2.2.2.2.2:w9 bl).length<=1000)
 {bb tb S:Nat} {te te2 te3:TypeId} {cb:Array Value} {mv:Value} (hbb:w.heap[bb]?=some (.cells cb te (0,0))) (O:CR w noG Ë x cb.toList) (htb:w.heap[tb]?=some (.cells #[.func (.func 199) #[] #[.pointer (some ⟨S,0,none⟩)]] te2 (0,0)))
 (C:w.heap[S]?=some (.cells #[mv] te3 (0,0))) (D:CR w noG (.map tI Ö) s [mv]) :
 SeqStopsK Fence.wide 1 Tryz.prog 202 #[.pointer (some ⟨bb,0,none⟩),.pointer (some ⟨tb,0,none⟩),.pointer (some ⟨S,0,none⟩)] (fun x:Int=>#[.int .i64 x]) (Below w.heap.size) (fun xs=>xs=G++(A++(z++E))) (fun m=>m <+: (G++(A++(z++E)))) (G++(A++(z++E))).length w:=by
 intro l J Jx W d hJ hJx hY h0;obtain⟨fl,r0,e0,hfl,hr0⟩:=id O;obtain⟨ga,r1,e1,hga,hr1⟩:=hr0;obtain⟨us,r2,e2,H,hr2⟩:=hr1;obtain⟨lo,r3,e3,hlo,hr3⟩:=hr2;obtain⟨co,ko,e4,hco,L⟩:=hr3;obtain⟨f1,f2,e5,hf1,hf2⟩:=hfl;have e6:f1=[.int .i64 x.1.1]:=hf1;have e7:f2=[.int .i64 x.1.2]:=hf2;obtain⟨gab,gac,e8⟩:=oN hga;obtain⟨X,V,e9⟩:=oN hlo;obtain⟨cob,coc,e10⟩:=oN hco;obtain⟨usb0,usc0,R⟩:=oN H;obtain⟨kob0,koc0,Q⟩:=oN L;rw[R] at H;rw[Q] at L;obtain⟨U,T,ub,uo,e13,K,hU⟩:=Ih H;obtain⟨Z,Y,kb,kof,e14,M,hK⟩:=Ih L;rw[e13] at R;rw[e14] at Q
 have N:cb=#[.int .i64 x.1.1,.int .i64 x.1.2,.slice gab (x.2.1:w9 pl).length gac,.slice U (x.2.2.1:w9 bl).length T,.slice X (x.2.2.2.1:w9 pi).length V,.slice cob (x.2.2.2.2.1:w9 gf).length coc,.slice Z (x.2.2.2.2.2:w9 bl).length Y]:=by
  rw[<-dw,e0,e1,e2,e3,e4,e5,e6,e7,e8,e9,e10,R,Q];rfl
 obtain⟨g1,q1⟩:=Cq h1;obtain⟨g2,q2⟩:=Cq h2;obtain⟨g3,q3⟩:=Cq h3;obtain⟨g4,q4⟩:=Cq h4
 have gl2:A.length=(x.2.2.2.1:w9 pi).length:=by rw[g2]; simp[vJ]
 have gl3:z.length=(x.2.2.2.2.1:w9 gf).length:=by rw[g3]; simp[vJ]
 have up1:upE (fun j=>G[j]?.getD 0) (x.2.2.1:w9 bl).length=G:=by rw[<-g1]; exact HC G
 have up2:upE (fun j=>A[j]?.getD 0) (x.2.2.2.1:w9 pi).length=A:=by rw[<-gl2]; exact HC A
 have up3:upE (fun j=>z[j]?.getD 0) (x.2.2.2.2.1:w9 gf).length=z:=by rw[<-gl3]; exact HC z
 have up4:upE (fun j=>E[j]?.getD 0) (x.2.2.2.2.2:w9 bl).length=E:=by rw[<-g4]; exact HC E
 have at1:∀{xs:w9 (Int×Int)} {t:w9 Int},(∀(i:Nat) (a:Int×Int),xs[i]?=some a->∃b,t[i]?=some b/\Ĺ a.1 a.2 s=some b)->∀j,j<xs.length->Ĺ (xs[j]?.getD (0,0)).1 (xs[j]?.getD (0,0)).2 s=some (t[j]?.getD 0):=by
  intro xs t hq j k;obtain⟨b,hb,hf⟩:=hq j xs[j] (cI k);rw[cI k,hb];exact hf
 have at2:∀{n:Nat} {t:w9 Int} {f:Int->w8 Int},(∀(i:Nat) (a:Int),(vJ n)[i]?=some a->∃b,t[i]?=some b/\f a=some b)->∀j,j<n->f (j:Int)=some (t[j]?.getD 0):=by
  intro n t f hq j k;obtain⟨b,hb,hf⟩:=hq j j (by simp[vJ,k]);rw[hb]; exact hf
 have c:∀{W':World},Below w.heap.size W W'->Below w.heap.size w W':=fun h=>d.trans h;have g:∀{W':World} {p:Addr} {v:Value},Below w.heap.size w W'->w.cell? p=some v->p.block<w.heap.size->W'.cell? p=some v:=fun {W'} {p} {v} h hc hp=>(h.cell (p:=p) hp).trans hc;have lb:=ß hbb;have lt:=ß htb;have t:=ß C
 have:=adI te 1 (by omega) l w.heap.size bb tb S (.int .i64 x.1.1) (.int .i64 x.1.2) (.slice gab (x.2.1:w9 pl).length gac) mv lb lt t
  ub uo (x.2.2.1:w9 bl).length T kb kof (x.2.2.2.2.2:w9 bl).length Y U Z X cob (x.2.2.2.1:w9 pi).length V (x.2.2.2.2.1:w9 gf).length coc K M
  (fun j=>(x.2.2.1:w9 (Int×Int))[j]?.getD (0,0)) (fun j=>(x.2.2.2.2.2:w9 (Int×Int))[j]?.getD (0,0)) (fun j=>G[j]?.getD 0) (fun j=>A[j]?.getD 0) (fun j=>z[j]?.getD 0) (fun j=>E[j]?.getD 0)
  q.1 q.2.1 q.2.2.1 q.2.2.2 W ((d.block bb lb).trans (by rw[hbb,N])) (g d (by simp[World.cell?,htb]) lt) (g d (by simp[World.cell?,C]) t)
  (fun j k=>⟨g d (hU j k).1 (K (by omega)).2,g d (hU j k).2 (K (by omega)).2⟩) (fun j k=>⟨g d (hK j k).1 (M (by omega)).2,g d (hK j k).2 (M (by omega)).2⟩)
  (fun j k W' o=>Qw (HT B (c o) (cJ _)) (at1 q1 j k) (((c o).block S t).trans C) (CR.below (c o) (cJ _) D))
  (fun j k W' o=>Qw (HT B (c o) (cJ _)) (at1 q4 j k) (((c o).block S t).trans C) (CR.below (c o) (cJ _) D))
  (fun j k W' o=>abb (HT B (c o) (cJ _)) (at2 q2 j k) (by have:=CR.below (c o) (cJ _) O; rwa [N] at this) (CR.below (c o) (cJ _) D))
  (fun j k W' o=>Tj (HT B (c o) (cJ _)) (at2 q3 j k) (by have:=CR.below (c o) (cJ _) O; rwa [N] at this) (CR.below (c o) (cJ _) D))
  J Jx (fun m W1 W2 k hg=>hJ m W1 W2 none k hg (fun r e=>by cases e)) (fun m W1 W2 k hg=>hJx m W1 W2 none k hg (fun r e=>by cases e))
  (fun m y W1 k hl=>hY m y W1 k (by simp only[cN]; omega)) h0 d.size
 rw[up1,up2,up3,up4] at this;exact this
end Go.Proofs.ZzM
end

noncomputable section
set_option maxRecDepth 100000
namespace Go.Proofs.ZzM
open Go Go.Am Go.RowKit
variable [LC]
section
variable [Ghost] {ρ:Type} {ν:Nat->Value} {w:World}
def peel (k:Ghost.Q=none) {E:Env ρ} {call:w9 Nat->Bool->Nat->w9 AV->w9 Blk->(AV->w9 Blk->w8 ρ)->w8 ρ} {L:Nat} (s:jB E L call) (t:pN E L call) (p:E.joins=fun _ _ _ _=>none) {fid:Nat} {path:w9 Nat} (m:path.length+2=L) {x y c:Code} {bid n:Nat} {S:St} {K:Exit->St->w8 ρ} {r:ρ} {a:Act} {Q:Exit->Act->World->Prop}
 (q:∀z∈Ï bid x,kD E path fid z.1 z.2) (e:goC E call fid path 0 bid (.seq x y) S K=some r) (H:Sim ν S a w)
 (o:∀ν' b d w',Sim ν' b d w'->Ev 0 ν S.h w ν' b.h w'->goC E call fid path 0 bid y b K=some r->c.wpIn Fence.wide n E.P Q d w')
 (i:∀ν' b d w' e,e≠.normal->Sim ν' b d w'->Ev 0 ν S.h w ν' b.h w'->K e b=some r->Q e d w'):(Code.seq x c).wpIn Fence.wide n E.P Q a w:=by
 simp only[goC,p] at e;have j:=pF s t m x bid S _ ν a w q e H (dI _);rw[PW k] at j;refine wpIn_seq (wpIn_wide.2 (wpIn_wide.1 (wpIn_mono j fun u d w' ha=>?_)));obtain⟨ν',b,g,h2,A,v,f⟩:=ha
 cases u with
 |normal=>exact o ν' b d w' g h2 f
 |exit id=>exact i ν' b d w' _ (by simp) g h2 f
 |goto l=>exact i ν' b d w' _ (by simp) g h2 f
 |ret=>exact i ν' b d w' _ (by simp) g h2 f
 |panic ch=>exact i ν' b d w' _ (by simp) g h2 f
 |outgrown=>exact i ν' b d w' _ (by simp) g h2 f
end
def Z1 {T:Array Value} {rb:Nat} {n:Int} {e:TypeId} {W:World} (h2:T.getD 2 undef=.pointer (some ⟨rb,0,none⟩)) (f:W.heap[rb]?=some (.cells #[.int .i64 n] e (0,0))):(results Tryz.f54 T).run Tryz.prog W=.ok (.int .i64 n) W:=by
 letI:Ghost:=(Gk (fun _=>False) [] (none))
 have d:(loadVar 36 ⟨rb,0,none⟩).run Tryz.prog W=.ok (.int .i64 n) W:=by
  have:=run_loadVar (P:=Tryz.prog) (w:=W) (t:=36) (agg:=false) (n:=1) (by kernel_rfl) (us:=[.int .i64 n]) rfl (fun _=>rfl) (a:=⟨rb,0,none⟩) (fun j v b=>by
   have:=CellsAt.of_cells f j v (by simpa using b)
   cases j with
   |zero=>simpa[Addr.add] using this
   |succ j=>simp at b)
  exact this
 have c:Tryz.f54.results=#[.cell 2 36]:=by kernel_rfl
 unfold results;rw[c,Array.mapM_eq_mapM_toList];simp only[Sem.run_bind,Sem.run_map,List.mapM_cons,List.mapM_nil,h2,asAddr,Sem.run_pure,Result.andThen_ok,d];rfl
@[reducible] noncomputable def gck (G:Nat->Prop) (M:Nat):Ghost:=(Gh G).re G [] none M
def ag6 [Ghost] {ν:Nat->Value} {h:w9 Blk} {w:World} {x:b5} {us:w9 Value} (a:ñ (VRc ν h w) (flat Ë x) us):CR w noG Ë x us:=by
 have e:Ò Ë (flat Ë x)=some x:=rfl;have h2:ñ (VRs w (Av ν h)) (flat Ë x) us:=a.mono fun c u b=>b.1.data;exact CR.mono (fun _ d=>d.elim) (ē e h2)
def AR (G:Nat->Prop) (y:Int) (w:World) (e:Ending) (w':World):Prop :=
 ∃u,e=.returned u/\RR w' G [tI] y u/\(∀b,b<w.heap.size->w'.heap[b]?=w.heap[b]?)/\w.heap.size<=w'.heap.size/\w'.os=w.os/\w'.tape=w.tape/\w'.output=w.output
def Xh {G:Nat->Prop} {y:Int} {w0 w:World} {a:Act} {ms:w9 Nat} {rb:Nat} {e:TypeId} (hd:a.defers=ms.map mk1) (r:ms.Nodup) (i:∀k∈ms,w.heap[k]?=some (.deferred (some []))/\w0.heap.size<=k) (h2:a.tmps.getD 2 undef=.pointer (some ⟨rb,0,none⟩)) (g:w.heap[rb]?=some (.cells #[.int .i64 y] e (0,0)))
 (hb:∀b,b<w0.heap.size->w.heap[b]?=w0.heap[b]?) (c:w0.heap.size<=w.heap.size) (x:w.os=w0.os) (v:w.tape=w0.tape) (u:w.output=w0.output):LeavesInM Fence.wide 2 Tryz.prog Tryz.f54 a.tmps (AR G y w0) a.defers .returning w:=by
 rw[hd]
 have d:rb∉ms:=fun h=>by rw[(i rb h).1] at g; cases g
 refine nc ms w r (fun k t=>(i k t).1) fun z q p o m j=>?_;exact⟨.int .i64 y,Z1 h2 ((j rb d).trans g),.int .i64 y,rfl,⟨[.int .i64 y],rfl,rfl⟩,fun b f=>(j b fun s=>by have:=(i b s).2; omega).trans (hb b f),by rw[q]; exact c,p.trans x,o.trans v,m.trans u⟩
def ag3 (S:St):ckK .ret S=(ab7 S).map .inl:=by
 unfold ckK
 cases ab7 S<;>rfl
def YY (S:St):ckK .normal S=if decide (78<=S.t.length)=true then some (.inr ([lk S.t 1,lk S.t 2,lk S.t 48],S.h)) else none:=by
 unfold ckK
 cases decide (78<=S.t.length)<;>rfl
def km [Ghost] {ρ:Type} {E:Env ρ} (h0:E.loops=Ε []) (c:E.ranges=fun _ _ _ _ _ _ _=>none) {path:w9 Nat} {fid bid:Nat} {b:LI}:kD E path fid bid b:=by
 cases b with
 |lp b=>exact fun m S K r ν a w e=>by rw[h0] at e; cases e
 |rf g ps x y=>exact fun m S K r ν a w e=>by rw[c] at e; cases e
def afv {ρ:Type} (E:Env ρ) (e:E.P.follows .mixedOrders=true) (a:∀[Ghost],Γ E->yX E) (h0:E.loops=Ε []) (g:E.ranges=fun _ _ _ _ _ _ _=>none) (d:E.yld=none) [Ghost]:jB E 2 (ĺ E 10) :=
 mg a (fun L call b=>iV e L call b) (fun n h b _ _ path f fn c _ _ _ z _=>km h0 g) 10 (cJ _) (Ũ d)
noncomputable def af7:Code->String
 | .region _ ops _ => ((ops[0]?).map fun o => o.pos).getD ""
 | _ => ""
noncomputable def rfA:Code->Code
 |.block _ (.rangeFunc _ _ a _)=>a
 |_=>.skip
noncomputable def rfB:Code->Code
 |.block _ (.rangeFunc _ _ _ (.block _ (.seq a _)))=>a
 |_=>.skip
noncomputable def rfC:Code->Code
 |.block _ (.rangeFunc _ _ _ (.block _ (.seq _ (.cond _ (.seq a _) _))))=>a
 |_=>.skip
def ag1:ckRF=Code.block 0 (Code.rangeFunc (.tmp 48) #[49] (VL (af7 (rfA ckRF))) (ae6 (af7 (rfB ckRF)) (af7 (rfC ckRF)))):=by kernel_rfl
def afu:∀e∈ck_pt,Ś Tryz.prog e.1 e.2:=À Lz (À BI (À yC (À LA Ä)))
def ab8 {e:Exit} {S:St} {n:Int} (h:ckK2 e S=some n):e=.ret/\lk S.t 2=.box 1 0/\lkB S.h 1=.cells [.int .i64 n]:=by
 unfold ckK2 at h
 split at h
 ·split at h
  ·rename_i h2
   split at h
   ·rename_i a;cases h;exact⟨rfl,h2,a⟩
   ·cases h
  ·cases h
 ·cases h
def SM [Ghost] {ν:Nat->Value} {h:w9 Blk} {w:World} {n:Int} {id:Nat} (H:HR ν h w) (d:lkB h id=.cells [.int .i64 n]):∃b e,ν id=.pointer (some ⟨b,0,none⟩)/\w.heap[b]?=some (.cells #[.int .i64 n] e (0,0)):=by
 have a:=H.blk id;rw[d] at a;obtain⟨b,c,e,k,h2,j⟩:=a;obtain⟨u,i,g⟩:=j.one;have f:u=.int .i64 n:=g.1;refine⟨b,e,k,?_⟩;rw[h2]
 have:c=#[.int .i64 n]:=by rw[<-dw,i,f]
 rw[this]
def FD [Ghost] {ν:Nat->Value} {h:w9 Blk} {w:World} {id off:Nat} {v:Value} {b:Nat} (a:VR ν h w (.box id off) v) (hb:ν id=.pointer (some ⟨b,0,none⟩)):v=.pointer (some ⟨b,off,none⟩):=by
 obtain⟨cs,e,d,h2,c⟩:=a;rw[hb] at h2;cases h2;exact c
def ag0 {G:Nat->Prop} {x:b5} {s:ge} {y:Int} (Y:ckS x=some y) {ν:Nat->Value} {w0 c W:World} {a:Act} (H:@HR _ (gck G w0.heap.size) ν (ckH x s 0) c) (hb:Below c.heap.size c W) {ms:w9 Nat} (hd:a.defers=ms.map mk1) (X:ms.Nodup) (D:∀k∈ms,W.heap[k]?=some (.deferred (some []))/\w0.heap.size<=k) (q:78<=a.tmps.size)
 (t1:@VR _ (gck G w0.heap.size) ν (ckH x s 0) c (.box 0 0) (a.tmps.getD 1 undef)) (t2:@VR _ (gck G w0.heap.size) ν (ckH x s 0) c (.box 1 0) (a.tmps.getD 2 undef))
 (h0:∀b,b<w0.heap.size->c.heap[b]?=w0.heap[b]?/\¬pP ν (ckH x s 0) b) (C:w0.heap.size<=c.heap.size) (r:c.os=w0.os) (h4:c.tape=w0.tape) (Z:c.output=w0.output) :
 Ov.wpIn Fence.wide 2 Tryz.prog (bodyPostM Fence.wide 2 Tryz.prog Tryz.f54 (AR G y w0)) a W:=by
 have E:∀b,pP ν (ckH x s 0) b->b<c.heap.size:=fun b K=>@HR.ltA _ (gck G w0.heap.size) _ _ _ H b (.inl K)
 have A:∃b,ν 0=.pointer (some ⟨b,0,none⟩)/\a.tmps.getD 1 undef=.pointer (some ⟨b,0,none⟩):=by
  obtain⟨cs,b,_,h2,r⟩:=t1;exact⟨b,h2,r⟩
 have v:∃b,ν 1=.pointer (some ⟨b,0,none⟩)/\a.tmps.getD 2 undef=.pointer (some ⟨b,0,none⟩):=by
  obtain⟨cs,b,_,h2,r⟩:=t2;exact⟨b,h2,r⟩
 letI:Ghost:=gck G w0.heap.size
 have H1:HR ν (ckH x s 0) c:=H;have H2:HR ν (ckH x s 0) W:=(H1.grow (fun b g=>hb.block b g) hb.size hb.os hb.tape hb.output 0).2;have j:∀L call,jB (aez Int) L call->pN (aez Int) L call:=iV hmix;have J:(aez Int).loops=Ε []:=rfl;have f:jB (aez Int) 2 (ĺ (aez Int) 10):=afv (aez Int) hmix (fun {_} _=>vG afu (aez Int) rfl rfl rfl rfl rfl (ě rfl) (jZ rfl) (Ũ rfl)) rfl rfl rfl;have law:=ck_suf x s;rw[Y] at law
 have B:Sim ν {t:=[.any,.box 0 0,.box 1 0]++List.replicate 75 .any,h:=ckH x s 0} a W:=by
  refine⟨⟨⟨ms,hd.trans (df _).symm,X,D⟩,fun l K=>(by cases K),dI _,cW C hb.size⟩,by simpa using q,fun i=>?_,H2⟩;simp only[N5];rcases i with _|_|_|i
  ·trivial
  ·obtain⟨b,m,d⟩:=A;exact⟨_,b,rfl,m,d⟩
  ·obtain⟨b,m,d⟩:=v;exact⟨_,b,rfl,m,d⟩
  ·trivial
 refine wpIn_wide.2 (wpIn_wide.1 (wpIn_mono (pF f (j _ _ f) rfl Ov 0 _ _ ν a W (fun z _=>km J rfl) law B (dI _)) fun e a' w' ha=>?_));obtain⟨ν',S',m,d,_,_,g5⟩:=ha;obtain⟨rfl,V,U⟩:=ab8 g5;obtain⟨rb,te,Q,O⟩:=SM m.heap U;have M:=m.tmps 2;rw[V] at M;have N:=FD M Q;obtain⟨⟨R,m1,T,S⟩,_⟩:=m.defers;refine Xh (w:=w') (a:=a') (G:=G) (y:=y) (w0:=w0) (rb:=rb) (m1.trans (df _)) T S N O (fun b g=>?_) (by have:=d.size; have:=hb.size; omega) (d.os.trans (hb.os.trans r)) (d.tape.trans (hb.tape.trans h4)) (d.output.trans (hb.output.trans Z));have u:=h0 b g
 have p:b<c.heap.size:=by omega
 have o:b<W.heap.size:=by have:=hb.size; omega
 exact(d.keep b o u.2).1.trans ((hb.block b p).trans u.1)
set_option maxHeartbeats 2000000 in
def YZ (G:Nat->Prop) (x:b5) (y:Int) (r:ŧ x=some y) (w:World) (vals:w9 Value) (hG:∀b,G b->b<w.heap.size) (hΦ:Globs.Φ w) (hAL:AL w G [Ë] x vals) :
 (∃fn c,Tryz.prog.funcs[54]?=some fn/\fn.body=some c)/\CallsIn Fence.wide 0 Tryz.prog 54 vals.toArray w (AR G y w):=by
 rw[aey] at r
 letI:Ghost:=gck G w.heap.size
 have hpt:=afu;have hdraw:∀L call,jB (ckE ckR) L call->pN (ckE ckR) L call:=iV hmix;have h0:(ckE ckR).loops=Ε []:=rfl;have m:jB (ckE ckR) 2 (ĺ (ckE ckR) 10):=afv (ckE ckR) hmix (fun {_} _=>vG hpt (ckE ckR) rfl rfl rfl rfl rfl (ě rfl) (jZ rfl) (Ũ rfl)) rfl rfl rfl;have hD:=hdraw _ _ m;have H:HR (fun _=>undef) [] w:=⟨fun _=>trivial,fun _ _ _ h=>(by cases h),hG,fun _ _ h=>(by cases h),hΦ,fun _ _ ⟨_,h,_⟩=>(by cases h)⟩;have hav:∀b,Av (fun _=>undef) [] b->G b:=fun b hb=>hb.elim (fun⟨_,h,_⟩=>by cases h) id;have C:ñ (VR (fun _=>undef) [] w) (UX [Ë] x) vals:=AL.VR (hAL.mono hav);refine⟨⟨Tryz.f54,_,Tryz.func54,afw⟩,?_⟩
 have hlen:vals.length=1:=by
  have:=C.length;simpa[UX,abS] using this.symm
 cases hM:ckM x with
 |none=>rw[hM] at r; cases r
 |some r0 =>
 rw[hM] at r;have law:=ck_pre x;rw[hM] at law;refine callsIn_wide.2 (callsIn_wide.1 (callsIn_of_wp_marks (n:=2) Tryz.func54 afw trivial ?_ (R:=AR G y w)))
 have hS:Sim (fun _=>undef) {t:=UX [Ë] x++List.replicate 77 .any,h:=[]} {tmps:=vals.toArray++Array.replicate (Tryz.f54.ntmps-vals.toArray.size) undef,defers:=[]} w:=by
  refine⟨⟨⟨[],rfl,fo,fun _ h=>(by cases h)⟩,fun l hl=>(by cases hl),dI _,cJ _⟩,?_,fun i=>?_,H⟩
  ·have:Tryz.f54.ntmps=78:=by kernel_rfl
   have hl2:(UX [Ë] x).length=1:=rfl;simp[this,hlen,hl2]
  ·simp only[N5];rcases dA i (UX [Ë] x).length with hi|hi
   ·have:=ñ.lk (R:=VR (fun _=>undef) [] w) (fun _=>trivial) i C
    have hv:i<vals.length:=by rw[<-C.length]; exact hi
    have h2:(vals.toArray++Array.replicate (Tryz.f54.ntmps-vals.toArray.size) undef).getD i undef=vals.getD i undef:=by
     simp[dt,eY,hv]
    rw[h2]; exact this
   ·rw[ad4 _ _ hi]; trivial
 -- the ways out ahead of the loop
 have out:∀ν' U a' w' e,e≠.normal->Sim ν' U a' w'->Ev 0 (fun _=>undef) [] w ν' U.h w'->ckK e U=some r0->bodyPostM Fence.wide 2 Tryz.prog Tryz.f54 (AR G y w) e a' w':=by
  intro ν' U a' w' e O q E d
  cases e with
  |normal=>exact(O rfl).elim
  |ret =>
   rw[ag3] at d
   cases hr:ab7 U with
   |none=>rw[hr] at d; cases d
   |some n =>
    rw[hr,dQ] at d;cases d
    have hyn:n=y:=by simpa using r
    subst hyn;unfold ab7 at hr
    split at hr
    ·rename_i v hv;show LeavesInM _ _ _ _ _ _ a'.defers _ _;obtain⟨⟨ms,m1,m2,m3⟩,_,m4,m5⟩:=q.defers;rw[show a'.defers=ms.map mk1 from m1.trans (df _)];refine nc ms w' m2 (fun k d=>(m3 k d).1) fun w2 q1 q2 q3 q4 q5=>?_
     have hk2:∀(b:Nat) (o:Obj),w'.heap[b]?=some o->GN o=true\/b<(gck G w.heap.size).B->w2.heap[b]?=some o:=fun b o hb hd=>by
      have hbm:b∉ms:=fun hm=>by
       rw[(m3 b hm).1] at hb; cases hb;rcases hd with hd|hd
       ·cases hd
       ·exact absurd hd (Nat.not_lt_zero _)
      rw[q5 b hbm]; exact hb
     have KG:iH (gck G w.heap.size) ν' U.h w' (gck G w.heap.size).G w2:=iH.nds q2 q3 q4 (by omega) hk2
     have sim2:Sim ν' U {a' with defers:=[]} w2:=⟨⟨⟨[],rfl,fo,fun _ h=>(by cases h)⟩,fun l hl=>(by cases hl),dI _,by rw[q1]; exact m5⟩,q.len,fun i=>VR.step (g:=gck G w.heap.size) (D:=[]) (Q:=none) (M:=w.heap.size) KG (q.tmps i),
      HR.step (g:=gck G w.heap.size) (D:=[]) (Q:=none) (M:=w.heap.size) KG (fun b hb=>by rw[q1]; exact q.heap.ghlt b hb) (fun b hb hg=>by obtain⟨id,h1,h2⟩:=hb; exact q.heap.ghne id b h1 h2 hg) q.heap⟩
     obtain⟨u,r1,r2⟩:=Nk sim2 hv;exact⟨u,r1,u,rfl,VM sim2.heap [tI] r2 hr,fun b hb=>(q5 b fun hm=>by have m7:w.heap.size<=b:=(m3 b hm).2; omega).trans (E.keep b hb fun⟨_,h,_⟩=>by cases h).1,by rw[q1]; exact E.size,q2.trans E.os,q3.trans E.tape,q4.trans E.output⟩
    ·cases hr
  |exit id=>cases d
  |goto l=>cases d
  |panic ch=>cases d
  |outgrown=>cases d
 have J:∀{Y:Nat->Value} {h₁:w9 Blk} {w₁:World},Ev 0 (fun _=>undef) [] w Y h₁ w₁->∀ν' U a' w' e,e≠.normal->Sim ν' U a' w'->Ev 0 Y h₁ w₁ ν' U.h w'->ckK e U=some r0->bodyPostM Fence.wide 2 Tryz.prog Tryz.f54 (AR G y w) e a' w' :=
  fun hE ν' U a' w' e O q E d=>out ν' U a' w' e O q (hE.trans E (cJ _)) d
 refine peel rfl m hD rfl rfl (fun z _=>km h0 rfl) law hS (fun ν1 S1 a1 w1 s1 e1 k1=>?_) out;refine peel rfl m hD rfl rfl (fun z _=>km h0 rfl) k1 s1 (fun ν2 S2 a2 w2 s2 e2 k2=>?_) (J e1);have t2:=e1.trans e2 (cJ _);refine peel rfl m hD rfl rfl (fun z _=>km h0 rfl) k2 s2 (fun ν3 S3 a3 w3 s3 e3 k3=>?_) (J t2);have t3:=t2.trans e3 (cJ _);refine peel rfl m hD rfl rfl (fun z _=>km h0 rfl) k3 s3 (fun ν4 S4 a4 w4 s4 e4 k4=>?_) (J t3);have t4:=t3.trans e4 (cJ _);refine peel rfl m hD rfl rfl (fun z _=>km h0 rfl) k4 s4 (fun ν5 S5 a5 w5 s5 e5 k5=>?_) (J t4);have t5:=t4.trans e5 (cJ _);refine wpIn_seq (wpIn_seq (wpIn_wide.2 (wpIn_wide.1 (wpIn_mono (pF m hD rfl ckA5 0 S5 _ ν5 a5 w5 (fun z _=>km h0 rfl) k5 s5 (dI _)) fun e' a6 K ha=>?_))));obtain⟨ν,S,V,e6,_,_,k6⟩:=ha;have N:=t5.trans e6 (cJ _)
 have f:∀e,e≠.normal->ckK e S=some r0->Exit.then (Code.wpIn Fence.wide 2 Tryz.prog Ov (bodyPostM Fence.wide 2 Tryz.prog Tryz.f54 (AR G y w))) (bodyPostM Fence.wide 2 Tryz.prog Tryz.f54 (AR G y w)) e a6 K:=by
  intro e O d;have:=out ν S a6 K e O V N d
  cases e<;>first|exact(O rfl).elim|exact this
 cases e' with
 |exit id=>exact f _ (by simp) k6
 |goto l=>exact f _ (by simp) k6
 |ret=>exact f _ (by simp) k6
 |panic ch=>exact f _ (by simp) k6
 |outgrown=>exact f _ (by simp) k6
 |normal =>
 clear f;rw[YY] at k6
 split at k6<;>try (cases k6; done)
 rename_i h78
 have h78':78<=S.t.length:=by simpa using h78
 cases k6;obtain⟨hlens,s,hs,hq⟩:=ag2 hM;simp only[Prod.mk.injEq,List.cons.injEq,and_true] at hq;obtain⟨⟨q1,q2,q48⟩,qh⟩:=hq
 have Z:QY (nf x s) some (ckS x)=some y:=by
  simp only at r;rw[hs] at r;exact r
 -- what the errors are
 obtain⟨L,X,hLy⟩:∃L,nf x s=some L/\(match L.find? (fun e=>e != 0) with|some e=>some e|none=>ckS x)=some y:=by
  unfold QY at Z
  cases hl:nf x s with
  |none=>rw[hl] at Z; cases Z
  |some L=>rw[hl] at Z; exact⟨L,rfl,Z⟩
 obtain⟨l1,l2,l3,l4,m1,m2,m3,m4,rfl⟩:∃l1 l2 l3 l4,IP (fun u=>Ĺ u.1 u.2 s) (x.2.2.1:w9 (Int×Int))=some l1/\IP (fun i=>Ŷ x s i) (vJ (x.2.2.2.1:w9 pi).length)=some l2 /\
  IP (fun i=>Ľ x s i) (vJ (x.2.2.2.2.1:w9 gf).length)=some l3/\IP (fun u=>Ĺ u.1 u.2 s) (x.2.2.2.2.2:w9 (Int×Int))=some l4/\L=l1++(l2++(l3++l4)):=by
  unfold nf at X
  cases m1:IP (fun u=>Ĺ u.1 u.2 s) (x.2.2.1:w9 (Int×Int)) with
  |none=>rw[m1] at X; cases X
  |some l1 =>
  rw[m1] at X
  cases m2:IP (fun i=>Ŷ x s i) (vJ (x.2.2.2.1:w9 pi).length) with
  |none=>simp only[Ã,m2] at X; cases X
  |some l2 =>
  cases m3:IP (fun i=>Ľ x s i) (vJ (x.2.2.2.2.1:w9 gf).length) with
  |none=>simp only[Ã,m2,m3] at X; cases X
  |some l3 =>
  cases m4:IP (fun u=>Ĺ u.1 u.2 s) (x.2.2.2.2.2:w9 (Int×Int)) with
  |none=>simp only[Ã,m2,m3,m4] at X; cases X
  |some l4 =>
  simp only[Ã,m2,m3,m4] at X;cases X;exact⟨l1,l2,l3,l4,rfl,rfl,rfl,rfl,rfl⟩
 -- the blocks
 obtain⟨T,Hh⟩:=S;dsimp only at q1 q2 q48 qh h78';subst qh;have p1:=V.tmps 1;have p2:=V.tmps 2;have p48:=V.tmps 48;dsimp only at p1 p2 p48;rw[q1] at p1;rw[q2] at p2;rw[q48] at p48;obtain⟨rb,te1,n1,hrb⟩:=SM (id:=1) (n:=0) V.heap rfl;have hB2:BR ν (ckH x s 0) K 2 (.cells (flat Ë x)):=V.heap.blk 2;have hB3:BR ν (ckH x s 0) K 3 (.cells [.mp tI Ö s]):=V.heap.blk 3;have hB4:BR ν (ckH x s 0) K 4 (.cells [.fn (.func 199) [] [.box 3 0]]):=V.heap.blk 4;obtain⟨bb,cb,te,n2,hbb,hb2⟩:=hB2;obtain⟨sb,cs3,te3,n3,hsb,hb3⟩:=hB3;obtain⟨tb,cs4,te2,n4,htb,hb4⟩:=hB4;obtain⟨mv,z3,hm3⟩:=hb3.one;obtain⟨fv,z4,hm4⟩:=hb4.one;have hmv:CR K noG (.map tI Ö) s [mv]:=CR.mono (fun _ hf=>hf.elim) (show CR K (Av ν (ckH x s 0)) (.map tI Ö) s [mv] from hm3.1)
 have hc3:cs3=#[mv]:=by rw[<-dw,z3]
 have hfv:fv=.func (.func 199) #[] #[.pointer (some ⟨sb,0,none⟩)]:=by
  obtain⟨fs,cs,h1,h2,h3⟩:=hm4.1
  have e1:fs=#[]:=by rw[<-dw]; exact h2.nil_left
  obtain⟨u,e2,h4⟩:=h3.one;have e3:u=.pointer (some ⟨sb,0,none⟩):=FD (w:=K) (id:=3) (off:=0) h4 n3
  have e4:cs=#[.pointer (some ⟨sb,0,none⟩)]:=by rw[<-dw,e2,e3]
  rw[h1,e1,e4]
 have hc4:cs4=#[fv]:=by rw[<-dw,z4]
 rw[hc3] at hsb;rw[hc4,hfv] at htb
 have hg:a6.tmps.getD 48 undef=.func (.func 202) #[] #[.pointer (some ⟨bb,0,none⟩),.pointer (some ⟨tb,0,none⟩),.pointer (some ⟨sb,0,none⟩)]:=by
  obtain⟨fs,cs,h1,h2,h3⟩:=p48
  have e1:fs=#[]:=by rw[<-dw]; exact h2.nil_left
  have hl:=h3.length
  obtain⟨u1,u2,u3,e2⟩:∃u1 u2 u3,cs.toList=[u1,u2,u3]:=by
   rcases hcs:cs.toList with _|⟨u1,_|⟨u2,_|⟨u3,_|⟨u4,t⟩⟩⟩⟩<;>rw[hcs] at hl<;>simp at hl
   exact⟨u1,u2,u3,rfl⟩
  rw[e2] at h3;have e3:u1=.pointer (some ⟨bb,0,none⟩):=FD (w:=K) (id:=2) (off:=0) h3.1 n2;have e4:u2=.pointer (some ⟨tb,0,none⟩):=FD (w:=K) (id:=4) (off:=0) h3.2.1 n4;have e5:u3=.pointer (some ⟨sb,0,none⟩):=FD (w:=K) (id:=3) (off:=0) h3.2.2.1 n3;rw[h1,e1];congr 1;rw[<-dw,e2,e3,e4,e5]
 have hseq:=adw V.heap.glob m1 m2 m3 m4 hlens hbb (ag6 hb2) htb hsb hmv;have h2:=FD p2 n1;have hsz:78<=a6.tmps.size:=cW h78' V.len
 have A:∀b,b<w.heap.size->K.heap[b]?=w.heap[b]?/\¬pP ν (ckH x s 0) b:=fun b hb=>N.keep b hb fun⟨_,h,_⟩=>by cases h
 obtain⟨⟨ms,m1',m2',p⟩,_⟩:=V.defers;have hdef:a6.defers=ms.map mk1:=m1'.trans (df _);show ckRF.wpIn Fence.wide 2 Tryz.prog (Exit.then (Ov.wpIn Fence.wide 2 Tryz.prog (bodyPostM Fence.wide 2 Tryz.prog Tryz.f54 (AR G y w))) (bodyPostM Fence.wide 2 Tryz.prog Tryz.f54 (AR G y w))) a6 K;rw[ag1];refine wpIn_block (af1 hseq hg h2 hsz hrb (fun D W hall hbel hDl hDo=>?_) (fun D W z hz j hDl hDo=>?_))
 ·have hck:ckS x=some y:=by
   have:(l1++(l2++(l3++l4))).find? (fun e=>e != 0)=none:=eZ.2 fun z hz=>by rw[hall z hz]; simp
   rw[this] at hLy;exact hLy
  have hDn:D∉ms:=fun hm=>by have:=ß (p D hm).1; omega
  exact ag0 (s:=s) (ms:=D::ms) hck V.heap hbel (by show mark D::a6.defers=_; rw[hdef]; rfl) (fA.2 ⟨hDn,m2'⟩) (fun k d=>by
   rcases cP.1 d with rfl|d
   ·exact⟨hDo,cW N.size hDl⟩
   ·exact⟨(hbel.block k (ß (p k d).1)).trans (p k d).1,(p k d).2⟩) hsz p1 p2 A N.size N.os N.tape N.output
 ·have hzy:z=y:=by
   rw[hz] at hLy;simpa using hLy
  subst hzy;obtain⟨te5,hcell⟩:=j.cell;have hlb:=ß hrb;have hlive:pP ν (ckH x s 0) rb:=⟨1,rfl,by rw[n1]; rfl⟩
  have hDn:D∉ms:=fun hm=>by have:=ß (p D hm).1; omega
  exact Xh (a:={a6 with defers:=mark D::a6.defers}) (w:=W) (ms:=D::ms) (by show mark D::a6.defers=_; rw[hdef]; rfl) (fA.2 ⟨hDn,m2'⟩) (fun k d=>by
   rcases cP.1 d with rfl|d
   ·exact⟨hDo,cW N.size hDl⟩
   ·exact⟨(j.block k (ß (p k d).1) (fun e=>by have h9:=(p k d).1; rw[e,hrb] at h9; cases h9)).trans (p k d).1,(p k d).2⟩) h2 hcell
   (fun b hb=>(j.block b (by have:=N.size; omega) (fun e=>(A b hb).2 (e▸hlive))).trans (A b hb).1) (by have:=N.size; have:=j.size; omega) (j.os.trans N.os) (j.tape.trans N.tape) (j.output.trans N.output)
def tM:Ś Tryz.prog 54 oS:=fun G x y hF w vals hG hΦ hAL=>YZ G x y hF w vals hG hΦ hAL
end Go.Proofs.ZzM
end

noncomputable section
namespace Go.Proofs
open Go.RowKit
attribute [local go_sem] Oper.semAt_some
def Xw (w:World) (o o':Obj):((w.alloc o).alloc o').heap[w.heap.size+1]?=some o':=by
 simp only[World.alloc];rw[show w.heap.size+1=(w.heap.push o).size from(Array.size_push _).symm];exact Array.getElem?_push_size
def acR (w:World) (o o':Obj):((w.alloc o).alloc o').heap[w.heap.size]?=some o:=by
 simp only[World.alloc];rw[Array.getElem?_push_lt (by rw[Array.size_push]; omega),Array.getElem_push_eq]
def TC (w:World) (o o':Obj) (b:Nat) (hb:b<w.heap.size):((w.alloc o).alloc o').heap[b]?=w.heap[b]?:=by
 simp only[World.alloc];rw[Array.getElem?_push_lt (by simp; omega),Array.getElem_push_lt hb,Array.getElem?_eq_getElem hb]
def afx {W:World} {b:Nat} {f e d c a:Value} {t:TypeId} (h:W.heap[b]?=some (.cells #[f,e,d,c,a] t (0,0))) :
 W.cell? ⟨b,0,none⟩=some f/\W.cell? ⟨b,1,none⟩=some e/\W.cell? ⟨b,2,none⟩=some d/\W.cell? ⟨b,3,none⟩=some c/\W.cell? ⟨b,4,none⟩=some a/\∀j,W.frozen? ⟨b,j,none⟩=false:=by
 refine⟨?_,?_,?_,?_,?_,fun j=>?_⟩<;>simp only[World.cell?,World.frozen?,h]<;>rfl
def set5 {W:World} {b:Nat} {c0 e d c a:Value} {k j i g f:Value} {t:TypeId} (h:W.heap[b]?=some (.cells #[k,j,i,g,f] t (0,0))) :
 (((((W.setCell ⟨b,0,none⟩ c0).setCell ⟨b,1,none⟩ e).setCell ⟨b,2,none⟩ d).setCell ⟨b,3,none⟩ c).setCell ⟨b,4,none⟩ a)=W.setRow b #[c0,e,d,c,a]:=by
 rw[setCell_eq_setRow W b 0 _ t (0,0) c0 h,setCell_eq_setRow _ b 1 _ t (0,0) e (setRow_heap _ _ _ _ t _ h),setRow_setRow,setCell_eq_setRow _ b 2 _ t (0,0) d (setRow_heap _ _ _ _ t _ h),setRow_setRow,
  setCell_eq_setRow _ b 3 _ t (0,0) c (setRow_heap _ _ _ _ t _ h),setRow_setRow,setCell_eq_setRow _ b 4 _ t (0,0) a (setRow_heap _ _ _ _ t _ h),setRow_setRow]
 rfl
def XP {T:Array Value} {b:Nat} {c0 g f d c:Int} {e:TypeId} {W:World} (h2:T.getD 2 undef=.pointer (some ⟨b,0,none⟩)) (o:W.heap[b]?=some (.cells #[.int .i64 c0,.int .i64 g,.int .i64 f,.int .i64 d,.int .i64 c] e (0,0))):(results Tryz.f181 T).run Tryz.prog W=.ok (.agg #[.int .i64 c0,.int .i64 g,.int .i64 f,.int .i64 d,.int .i64 c]) W:=by
 letI:Go.Am.Ghost:=Go.Am.Gh fun _=>False
 have k:(loadVar 245 ⟨b,0,none⟩).run Tryz.prog W=.ok (.agg #[.int .i64 c0,.int .i64 g,.int .i64 f,.int .i64 d,.int .i64 c]) W:=by
  have:=Go.Am.run_loadVar (P:=Tryz.prog) (w:=W) (t:=245) (agg:=true) (n:=5) (by kernel_rfl) (us:=[.int .i64 c0,.int .i64 g,.int .i64 f,.int .i64 d,.int .i64 c]) rfl (fun h=>by cases h) (a:=⟨b,0,none⟩) (fun j v m=>by
   have:=Go.Am.CellsAt.of_cells o j v (by simpa using m)
   have ha:(⟨b,0,none⟩:Addr).add j=⟨b,j,none⟩:=by unfold Addr.add; split<;>simp_all
   rw[ha]; simpa using this)
  exact this
 have i:Tryz.f181.results=#[.cell 2 245]:=by kernel_rfl
 unfold results;rw[i,Array.mapM_eq_mapM_toList];simp only[Sem.run_bind,Sem.run_map,List.mapM_cons,List.mapM_nil,h2,asAddr,Sem.run_pure,Result.andThen_ok,k];rfl
set_option maxRecDepth 100000 in
set_option maxHeartbeats 1000000 in
def adC (v:Value) (w:World) (c0 c1 c2 c3 c4:Int) (n:Int)
 (hcopy : ∀ W, (∀ b, b < w.heap.size -> W.heap[b]? = w.heap[b]?) -> W.heap[w.heap.size + 1]? = some (.cells #[.int .i64 0, .int .i64 0, .int .i64 0, .int .i64 0, .int .i64 0] 245 (0, 0)) -> (Builtin.copy_ #[41, 41] 3 #[.slice (some ⟨w.heap.size + 1, 0, none⟩) 5 5, v]).run Tryz.prog W = .ok (.int .i64 n) (W.setRow (w.heap.size + 1) #[.int .i64 c0, .int .i64 c1, .int .i64 c2, .int .i64 c3, .int .i64 c4])) :
  CallsIn Fence.wide 0 Tryz.prog 181 #[v] w fun e W'=>e=.returned (.agg #[.int .i64 c0,.int .i64 c1,.int .i64 c2,.int .i64 c3,.int .i64 c4])/\(∀b,b<w.heap.size->W'.heap[b]?=w.heap[b]?)/\w.heap.size<=W'.heap.size/\W'.os=w.os/\W'.tape=w.tape/\W'.output=w.output:=by
 refine callsIn_of_wp Tryz.func181 rfl trivial ?_ rfl;simp only[Tryz.ntmps181,eT,cV,dk,Nat.reduceAdd,Nat.reduceSub,Array.replicate_succ,Array.replicate_zero,List.push_toArray,gd,dV,dC]
 gi_wp2
 rw[hcopy _ (TC _ _ _) (Xw _ _ _)];generalize hW:World.setRow _ _ _=W1
 have g1:W1.heap[w.heap.size+1]?=some (.cells #[.int .i64 c0,.int .i64 c1,.int .i64 c2,.int .i64 c3,.int .i64 c4] 245 (0,0)):=by
  rw[<-hW]; exact setRow_heap _ _ _ _ 245 _ (Xw _ _ _)
 have g2:W1.heap[w.heap.size]?=some (.cells #[.int .i64 0,.int .i64 0,.int .i64 0,.int .i64 0,.int .i64 0] 245 (0,0)):=by
  rw[<-hW,setRow_other _ _ _ _ (by omega)]; exact acR _ _ _
 have g3:∀b,b<w.heap.size->W1.heap[b]?=w.heap[b]?:=fun b hb=>by
  rw[<-hW,setRow_other _ _ _ _ (by omega)]; exact TC _ _ _ b hb
 have g4:W1.os=w.os/\W1.tape=w.tape/\W1.output=w.output/\W1.heap.size=w.heap.size+2:=by
  rw[<-hW]; refine⟨rfl,rfl,rfl,?_⟩;rw[size_setRow]; simp only[World.alloc,Array.size_push]
 clear hW hcopy;obtain⟨l0,l1,l2,l3,l4,_⟩:=afx g1;obtain⟨z0,z1,z2,z3,z4,zf⟩:=afx g2
 gi_wp2
 rw[set5 g2];refine bodyPost_ret (XP rfl (setRow_heap _ _ _ _ 245 _ g2)) rfl ?_;exact⟨rfl,fun b hb=>(setRow_other _ _ _ _ (by omega)).trans (g3 b hb),by rw[size_setRow]; omega,g4.1,g4.2.1,g4.2.2.1⟩
end Go.Proofs
namespace Go.Proofs.ZzM
open Go Go.Am Go.Proofs
noncomputable def af0 (xs:w9 Int):(#[Value.int .i64 0,.int .i64 0,.int .i64 0,.int .i64 0,.int .i64 0].toList.take 0++(xs.take 5).map (Value.int .i64 ·)++#[Value.int .i64 0,.int .i64 0,.int .i64 0,.int .i64 0,.int .i64 0].toList.drop (0+((xs.take 5).map (Value.int .i64 ·)).length)).toArray =
 #[.int .i64 (xs.getD 0 0),.int .i64 (xs.getD 1 0),.int .i64 (xs.getD 2 0),.int .i64 (xs.getD 3 0),.int .i64 (xs.getD 4 0)]:=by
 rcases xs with _|⟨a,_|⟨b,_|⟨c,_|⟨d,_|⟨e,r⟩⟩⟩⟩⟩<;>rfl
def acd:Ś Tryz.prog 181 Q8:=by
 intro G x y E w vals M A r;obtain⟨v,rfl,us,p,o⟩:=r;change w9 Int at x;obtain⟨base,cap,rfl,s,d⟩:=p;have o:v=.slice base (x:w9 Int).length cap:=o;subst o;have B:y=((x:w9 Int).getD 0 0,(x:w9 Int).getD 1 0,(x:w9 Int).getD 2 0,(x:w9 Int).getD 3 0,(x:w9 Int).getD 4 0):=(Option.some.inj E).symm;refine⟨⟨Tryz.f181,_,Tryz.func181,rfl⟩,?_⟩
 have c:∀W:World,(∀b,b<w.heap.size->W.heap[b]?=w.heap[b]?)->W.heap[w.heap.size+1]?=some (.cells #[.int .i64 0,.int .i64 0,.int .i64 0,.int .i64 0,.int .i64 0] 245 (0,0)) ->
  (Builtin.copy_ #[41,41] 3 #[.slice (some ⟨w.heap.size+1,0,none⟩) 5 5,.slice base (x:w9 Int).length cap]).run Tryz.prog W=.ok (.int .i64 ((((x:w9 Int).take 5).map (Value.int .i64 ·)).length:Nat)) (W.setRow (w.heap.size+1) #[.int .i64 ((x:w9 Int).getD 0 0),.int .i64 ((x:w9 Int).getD 1 0),.int .i64 ((x:w9 Int).getD 2 0),.int .i64 ((x:w9 Int).getD 3 0),.int .i64 ((x:w9 Int).getD 4 0)]):=by
  intro W g a;rcases d with h0|⟨b,off,rfl,D,hb,q⟩
  ·have h0:x=([]:w9 Int):=h0;subst h0;rw[run_copy_none W 41 41 3 3 _ _ 5 5 _ _ (by kernel_rfl) (by kernel_rfl) (by simp)];exact congrArg _ (setRow_self W _ _ 245 (0,0) a).symm
  ·have:=run_copy_row Tryz.prog W 41 41 3 3 (w.heap.size+1) 0 5 5 ⟨b,off,none⟩ (x:w9 Int).length cap _ 245 (((x:w9 Int).take 5).map (Value.int .i64 ·)) (by kernel_rfl) (by kernel_rfl) a (by simp[Nat.min_comm]) (fun j u i=>by
    rw[eI] at i
    cases f:((x:w9 Int).take 5)[j]? with
    |none=>rw[f] at i; cases i
    |some n =>
     rw[f] at i;cases i
     have m:(x:w9 Int)[j]?=some n:=by
      rw[dR] at f
      split at f
      ·exact f
      ·cases f
     obtain⟨us,k,z⟩:=q j n m;have k:us=[.int .i64 n]:=k;subst k;have t:=z 0 _ rfl
     have ha:(⟨b,off,none⟩:Addr).add j=⟨b,off+j,none⟩:=by unfold Addr.add; split<;>simp_all
     rw[ha,World.cell?_of_block (w:=w) (by exact g b hb)]
     simpa[Ty.size] using t) (by simp; omega) (fun u C=>by
    obtain⟨n,_,rfl⟩:=dG.1 C
    rfl)
   rw[af0] at this;exact this
 refine(adC _ w _ _ _ _ _ _ c).mono fun e w' h=>?_;obtain⟨rfl,L,h2,K,J,H⟩:=h;refine⟨_,rfl,?_,L,h2,K,J,H⟩;subst B;exact⟨[.int .i64 _,.int .i64 _,.int .i64 _,.int .i64 _,.int .i64 _],⟨[_],_,rfl,rfl,[_],_,rfl,rfl,[_],_,rfl,rfl,[_],_,rfl,rfl,rfl⟩,rfl⟩
end Go.Proofs.ZzM
end

noncomputable section
set_option maxRecDepth 100000
namespace Go.Proofs.ZzM
open Go Go.Am
def Y4 [LC]:ZP 5 Ns:=zt (wt _) Ä rfl (À GR (À GQ Ä)) fun x=>by kernel_rfl
def acy [LC]:ZP 206 Rq:=zt (J9 _) (À tM (À BI (À Ej Ä))) rfl (À J8 Ä) fun x=>by kernel_rfl
def aeN [LC]:ZP 122 Wc:=zt (Yt _) (À acy (À Xm Ä)) rfl Ä fun x=>by kernel_rfl
def acf [LC]:ZP 55 Ra:=zt (kd _) (À aeN Ä) rfl (À Jd (À Jc (À Jb (À Ja (À I9 Ä))))) fun x=>Ph x some
def ip [LC]:ZP 16 Λ:=zt (Bp _) (À tM (À acf Ä)) rfl (À Jw (À Jy Ä)) fun x=>by kernel_rfl
def Lq [LC]:ZP 41 EK:=zt (RL _) (À tJ Ä) rfl (À Pf Ä) fun x=>by kernel_rfl
def Lr [LC]:ZP 136 vW:=zt (sj _) (À Lq Ä) rfl (À wA Ä) fun x=>by kernel_rfl
def oq [LC]:Ś Tryz.prog 61 kJ:=OX (š _) (fun {_}=>vG (À Lq (À Lr Ä)) (š _) rfl rfl rfl rfl rfl (ě rfl) (jZ rfl) (Ũ rfl)) hmix rfl (À Bf (À Be (À Bc (À Bb Ä)))) (jd fun x=>ES x some)
def iY [LC]:ZP 214 Š:=zt (ii _) Ä rfl (À kZ Ä) fun x=>by kernel_rfl
def Tu [LC]:ZP 279 FY:=zt (MF _) (À iY Ä) rfl Ä fun x=>by kernel_rfl
def aeK [LC]:ZP 281 V8:=zt (E7 _) (À mh Ä) rfl (À MK (À MJ Ä)) fun x=>by kernel_rfl
def Hx [LC]:ZP 324 uZ:=zt (Dk _) Ä rfl Ä fun x=>by kernel_rfl
def xI [LC]:ZP 327 sc:=zt (JU _) (À Ei Ä) rfl (À JT Ä) fun x=>by kernel_rfl
def Lw [LC]:ZP 334 A4:=zt (Pp _) (À Xk (À acs Ä)) rfl Ä fun x=>by kernel_rfl
def ag4 [LC]:ZP 330 aad:=zt (aaZ _) (À xI (À Lw Ä)) rfl Ä fun x=>by kernel_rfl
def P9 [LC]:ZP 325 Ch:=zt (JZ _) (À ag4 Ä) rfl Ä fun x=>by kernel_rfl
def Va [LC]:ZP 339 Uj:=zt (aaX _) Ä rfl Ä fun x=>by kernel_rfl
def AP [LC]:ZP 335 zk:=zt (Hg _) (À xI (À Va Ä)) rfl Ä fun x=>by kernel_rfl
def acu [LC]:ZP 338 aae:=zt (aa1 _) (À xI (À Lw Ä)) rfl Ä fun x=>by kernel_rfl
def act [LC]:Ś Tryz.prog 331 Rm:=aaa (Bt _) (Sg _) (fun {_}=>vG (À Ei (À AP (À acu (À Va Ä)))) (Bt _) rfl rfl rfl rfl rfl (ě rfl) (jZ rfl) (Ũ rfl)) (fun {_}=>libN (À Ei (À AP (À acu (À Va Ä)))) _) rfl hmix (tab:=uj _) rfl Ä (us:=Gp) rfl (À (by kernel_rfl) Ä) (jd fun x=>Pr x some)
def P8 [LC]:ZP 326 Cg:=zt (JY _) (À act Ä) rfl Ä fun x=>by kernel_rfl
def Za [LC]:ZP 312 Ny:=zt (Sq _) (À BI (À H6 (À Hx (À P9 (À P8 Ä))))) rfl Ä fun x=>by kernel_rfl
def acx [LC]:ZP 313 Rp:=zt (UH _) Ä rfl Ä fun x=>by kernel_rfl
def Tt [LC]:ZP 328 Iz:=zt (UD _) Ä rfl Ä fun x=>by kernel_rfl
def acv [LC]:ZP 314 Rn:=zt (UF _) (À xI (À Tt Ä)) rfl Ä fun x=>by kernel_rfl
def aeH [LC]:ZP 315 V5:=zt (Yq _) (À xI (À Tt Ä)) rfl Ä fun x=>by kernel_rfl
def aeI [LC]:ZP 282 V6:=zt (Yr _) (À Za (À acx (À acv (À aeH Ä)))) rfl Ä fun x=>by kernel_rfl
def aeJ [LC]:ZP 147 V7:=zt (yb _) (À Lz (À H6 (À Xl (À Tu (À aeK (À aeI Ä)))))) rfl (À MH (À MI (À MG Ä))) fun x=>by kernel_rfl
def yD [LC]:ZP 76 se:=zt (Su _) (À tM (À aeJ Ä)) rfl Ä fun x=>by kernel_rfl
def Xj [LC]:ZP 224 O0:=zt (Yn _) Ä rfl Ä fun x=>by kernel_rfl
def Eh [LC]:ZP 148 vZ:=zt (JS _) (À Xj Ä) rfl (À JR Ä) fun x=>by kernel_rfl
def xH [LC]:ZP 149 qj:=zt (Ż _) Ä rfl (À Db (À Da (À C8 (À C9 (À C7 Ä))))) fun x=>G7 x some
def MZ [LC]:ZP 141 zi:=zt (He _) (À Eh (À xH Ä)) rfl Ä fun x=>by kernel_rfl
def xF [LC]:ZP 67 qi:=zt (Md _) (À oq (À yD (À MZ Ä))) rfl Ä fun x=>by kernel_rfl
def Lx [LC]:ZP 213 wd:=zt (E4 _) Ä rfl Ä fun x=>by kernel_rfl
def tK [LC]:ZP 129 lS:=zt (Bu _) (À Lx Ä) rfl Ä fun x=>by kernel_rfl
def Y5 [LC]:ZP 130 Nt:=zt (wz _) Ä rfl (À GS (À GU Ä)) fun x=>by kernel_rfl
def Ox [LC]:ZP 128 EL:=zt (RN _) (À tK (À Y5 Ä)) rfl Ä fun x=>by kernel_rfl
def ou [LC]:XOk Tryz.prog 265 (.row û):=OT (r:=û) (ð _) (fun {_}=>vG (À Ox Ä) (ð _) rfl rfl rfl rfl rfl (ě rfl) (jZ rfl) (Ũ rfl)) hmix rfl (À kF (À kG Ä)) (fun xs x m=>lH xs x m some)
def xG [LC]:XOk Tryz.prog 306 (.row Ħ):=OT (r:=Ħ) (ö _) (fun {_}=>vG Ä (ö _) rfl rfl rfl rfl rfl (ě rfl) (jZ rfl) (Ũ rfl)) hmix rfl (À pk (À pj (À pm (À ph Ä)))) (fun xs x m=>rN xs x m some)
noncomputable def ot [LC] {a:(Val (.slice (.slice (.slice tI))))->Int->Int->Int->a7->w8 ((Val (.slice (.slice (.slice tI))))×a7)} (b:XOk Tryz.prog 266 (.row ⟨(.slice (.slice tI)),[tI,tI,tI],128,Â,fun(xs:(Val (.slice (.slice (.slice tI))))) (x:pc) (m:a7)=>a xs x.1 x.2.1 x.2.2 m⟩)):XOk Tryz.prog 266 (.row ⟨(.slice (.slice tI)),[tI,tI,tI],128,Â,fun(xs:(Val (.slice (.slice (.slice tI))))) (x:pc) (m:a7)=>Ě a xs x.1 x.2.1 x.2.2 m some⟩):=OT (r:=⟨(.slice (.slice tI)),[tI,tI,tI],128,Â,fun(xs:(Val (.slice (.slice (.slice tI))))) (x:pc) (m:a7)=>Ě a xs x.1 x.2.1 x.2.2 m some⟩) (Æ a _) (fun {_}=>vG (À Ox Ä) (Æ a _) rfl rfl rfl rfl rfl (ě rfl) (Fx (À b (À xG Ä)) rfl) (Ũ rfl)) hmix (tab:=iK a _) rfl (À nz (À ny (À nw (À nu (À nt Ä))))) (fun xs x m=>o9 _ xs x m some)
def iX [LC]:∀n:Nat,XOk Tryz.prog 266 (.row ⟨(.slice (.slice tI)),[tI,tI,tI],128,Â,fun(xs:(Val (.slice (.slice (.slice tI))))) (x:pc) (m:a7)=>ę n xs x.1 x.2.1 x.2.2 m⟩)
 |0=>aeX.mk (by intro _ _ _ _ _ _ h; cases h)
 |n+1=>ot (iX n)
def uR [LC]:XOk Tryz.prog 266 (.row kK):=iX 100
def nk [LC]:XOk Tryz.prog 212 (.row Ĕ):=OT (r:=Ĕ) (ĉ _) (fun {_}=>vG Ä (ĉ _) rfl rfl rfl rfl rfl (ě rfl) (Fx (À ou (À uR Ä)) rfl) (Ũ rfl)) hmix rfl (À pf (À pb (À pd Ä))) (fun xs x m=>rM xs x m some)
def P6 [LC]:Ś Tryz.prog 38 HH:=Iu (Ξ _) (fun {_}=>vG (À xF Ä) (Ξ _) rfl rfl rfl rfl rfl (ě rfl) (Fx (À nk Ä) rfl) (Ũ rfl)) hmix rfl (À Mc (À Mb Ä)) (rtab:=Jf _) rfl (À (Ma Lh) Ä) (À L9 Ä) (jd fun x=>RT x some)
def acl [LC]:ZP 10 Uh:=zt (aaP _) (À ip (À P6 Ä)) rfl Ä fun x=>by kernel_rfl
def ace [LC]:Ś Tryz.prog 97 Q9:=Iu (Ÿ _) (fun {_}=>vG (À acd Ä) (Ÿ _) rfl rfl rfl rfl rfl (ě rfl) (jZ rfl) (Ũ rfl)) hmix rfl (À I7 Ä) (rtab:=F6 _) rfl (À (I6 ab9) Ä) (À I5 Ä) (jd fun x=>Pg x some)
def acg [LC]:ZP 43 Rb:=zt (Uw _) (À ip (À ace Ä)) rfl Ä fun x=>by kernel_rfl
def Lt [LC]:ZP 44 Cd:=zt (I2 _) Ä rfl (À I1 Ä) fun x=>by kernel_rfl
def ach [LC]:ZP 12 Ug:=zt (aaL _) (À Lq (À acg (À Lt Ä))) rfl Ä fun x=>by kernel_rfl
def Eg [LC]:Ś Tryz.prog 58 xV:=Iu (je _) (fun {_}=>vG Ä (je _) rfl rfl rfl rfl rfl (ě rfl) (Fx (À nk Ä) rfl) (Ũ rfl)) hmix rfl Ä (rtab:=IV _) rfl (À (LZ Lh) Ä) (À LY Ä) (jd fun x=>RM x some)
def aeD [LC]:ZP 18 VX:=zt (Yl _) (À ip (À Eg Ä)) rfl Ä fun x=>by kernel_rfl
def Tp [LC]:ZP 19 FV:=zt (LV _) Ä rfl Ä fun x=>by kernel_rfl
def uQ [LC]:ZP 59 nV:=zt (wF _) (À Eg (À xF Ä)) rfl (À Bl Ä) fun x=>by kernel_rfl
def ack [LC]:ZP 20 Rf:=zt (Ux _) (À ip (À uQ Ä)) rfl Ä fun x=>by kernel_rfl
def acA [LC]:ZP 132 Rs:=zt (UI _) (À tM (À Lz (À iY Ä))) rfl Ä fun x=>by kernel_rfl
def aeM [LC]:ZP 133 Wa:=zt (N2 _) (À tM Ä) rfl (À MS Ä) fun x=>by kernel_rfl
def acp [LC]:ZP 216 Rj:=zt (JJ _) (À Eh (À xH (À Xj Ä))) rfl (À JI Ä) fun x=>by kernel_rfl
def Y9 [LC]:ZP 267 Nx:=zt (iR _) Ä rfl (À Hd (À Hc (À Hb (À G9 (À Ha Ä))))) fun x=>Mv x some
def acq [LC]:ZP 134 Rk:=zt (Bs _) (À acp (À Y9 Ä)) rfl (À JL (À JK Ä)) fun x=>by kernel_rfl
def Y6 [LC]:ZP 60 Nu:=zt (RP _) (À yD (À acA (À aeM (À acq Ä)))) rfl Ä fun x=>by kernel_rfl
def Y8 [LC]:ZP 21 Nw:=zt (wV _) (À ip (À P6 (À Lq (À Lt (À Y6 (À oq Ä)))))) rfl (À G6 (À G5 Ä)) fun x=>by kernel_rfl
def Xi [LC]:ZP 63 OZ:=zt (xZ _) (À Ι Ä) rfl (À L2 (À L1 Ä)) fun x=>RO x some
def aeF [LC]:ZP 22 VZ:=zt (EV _) (À ip (À uQ (À lE (À Xi Ä)))) rfl (À Mk (À Mj Ä)) fun x=>by kernel_rfl
def Y7 [LC]:ZP 68 Nv:=zt (F8 _) Ä rfl (À GZ Ä) fun x=>by kernel_rfl
def Tq [LC]:ZP 23 FW:=zt (Ķ _) (À ip (À Eg (À Xi (À xF (À Y7 (À tK Ä)))))) rfl (À CW (À CX (À CV (À CU (À CS (À CQ (À CP (À CT Ä)))))))) fun x=>G0 x some
def Zb [LC]:ZP 74 Nz:=zt (Sv _) (À Oy (À H6 Ä)) rfl Ä fun x=>by kernel_rfl
def P7 [LC]:ZP 24 Ce:=zt (kR _) (À ip (À Lt (À uQ (À Zb (À Ι Ä))))) rfl (À Bn (À Bm Ä)) fun x=>ET x some
def aco [LC]:ZP 150 Ri:=zt (JG _) Ä rfl (À UC (À UA (À Uz (À UB Ä)))) fun x=>by kernel_rfl
def acr [LC]:ZP 77 Rl:=zt (lZ _) (À Eh (À xH (À aco Ä))) rfl (À JQ (À JM (À JN (À JO (À JP Ä))))) fun x=>by kernel_rfl
def aci [LC]:ZP 25 Rc:=zt (Jk _) (À ip (À Eg (À oq (À yD (À acr Ä))))) rfl (À Jj Ä) fun x=>by kernel_rfl
def U9 [LC]:ZP 153 Iy:=zt (Dc _) Ä rfl (À EZ Ä) fun x=>by kernel_rfl
def aeG [LC]:ZP 154 V4:=zt (NL _) Ä rfl (À Mu Ä) fun x=>by kernel_rfl
def M3 [LC]:ZP 78 zj:=zt (Hf _) (À Eh (À U9 (À aeG Ä))) rfl Ä fun x=>by kernel_rfl
def MW [LC]:ZP 26 zd:=zt (vl _) (À ip (À Eg (À oq (À yD (À M3 Ä))))) rfl (À yR Ä) fun x=>by kernel_rfl
def ov [LC]:ZP 28 kL:=zt (wY _) Ä rfl (À Br Ä) fun x=>by kernel_rfl
def Ts [LC]:ZP 27 FX:=zt (zJ _) (À ov Ä) rfl (À C2 Ä) fun x=>by kernel_rfl
def P5 [LC]:ZP 6 Cc:=zt (wu _) (À acl (À ach (À aeD (À Tp (À ack (À Y8 (À aeF (À Tq (À P7 (À aci (À MW (À Ts (À ov Ä))))))))))))) rfl Ä fun x=>EQ x some
def aeL [LC]:ZP 88 V9:=zt (NW _) (À AM Ä) rfl (À ML Ä) fun x=>by kernel_rfl
def Tv [LC]:ZP 36 IB:=zt (kg _) (À tM (À aeL (À MX Ä))) rfl (À Ke (À Kd (À Kc (À Kb (À Ka Ä))))) fun x=>Py x some
def Tr [LC]:ZP 8 Iw:=zt (Bo _) (À ip (À Tv (À AM Ä))) rfl (À Jl (À Jm Ä)) fun x=>by kernel_rfl
def lK [LC]:ZP 79 ž:=zt (kH _) Ä rfl Ä fun x=>by kernel_rfl
def BH [LC]:ZP 29 oR:=zt (wW _) (À lK Ä) rfl Ä fun x=>by kernel_rfl
def Ly [LC]:Ś Tryz.prog 161 A5:=OX (oc _) (fun {_}=>vG Ä (oc _) rfl rfl rfl rfl rfl (ě rfl) (Fx (À AO Ä) rfl) (Ũ rfl)) hmix rfl (À E6 Ä) (jd fun x=>J3 x some)
def acw [LC]:ZP 167 Ro:=zt (J1 _) (À Ly Ä) rfl (À J0 Ä) fun x=>by kernel_rfl
def Kk [LC] {ρ:Type} (a:LL Tryz.prog 82 ks):(rO ρ).Ok (gR ρ):=⟨Hn,a,Ki,Kg,dM rfl,Kh,fun p v y c b=>(Hr p v y c b).trans (Ho p v y c b)⟩
def acz [LC]:Ś Tryz.prog 31 Rr:=QZ (gR _) (fun {_}=>vG (À Lu (À nO (À Tv (À Ly (À acw Ä))))) (gR _) rfl rfl rfl rfl rfl (ě rfl) (jZ rfl) (Ũ rfl)) hmix rfl Ä (rtab:=Gt _) rfl (À (Kk WI) Ä) (À Kj Ä) (jd fun x=>Pz x some)
def Jr [LC] {ρ:Type} (a:LL Tryz.prog 82 ks):(rL ρ).Ok (Ź ρ):=⟨G3,a,Jp,Jn,dM rfl,Jo,fun p v y c b=>G4 p v y c b⟩
def acj [LC]:Ś Tryz.prog 7 Re:=QZ (Ź _) (fun {_}=>vG (À Tr (À BH (À Lv (À acz (À nO Ä))))) (Ź _) rfl rfl rfl rfl rfl (ě rfl) (Fx (À Hv (À AO Ä)) rfl) (Ũ rfl)) hmix rfl (À Js Ä) (rtab:=Gb _) rfl (À (Jr WI) Ä) (À Jq Ä) (jd fun x=>Pl x some)
def aeE [LC]:ZP 9 VY:=zt (EU _) (À ip (À P6 (À Lq Ä))) rfl (À Me (À Mg Ä)) fun x=>by kernel_rfl
def Hw [LC]:ZP 95 uY:=zt (C5 _) (À ov Ä) rfl Ä fun x=>by kernel_rfl
def MY [LC]:ZP 96 zh:=zt (vm _) Ä rfl (À yS Ä) fun x=>by kernel_rfl
def acn [LC]:ZP 42 Rh:=zt (pq _) (À Hw (À MY Ä)) rfl (À JE (À JD (À JC (À JB Ä)))) fun x=>by kernel_rfl
def acm [LC]:ZP 11 Rg:=zt (JA _) (À ov (À acn Ä)) rfl (À Jz Ä) fun x=>by kernel_rfl
end Go.Proofs.ZzM
end
