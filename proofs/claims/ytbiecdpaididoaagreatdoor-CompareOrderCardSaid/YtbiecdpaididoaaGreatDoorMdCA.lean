/- lemmas -/
import Derived.Test.YtbiecdpaididoaaGreatDoorAmE
import Derived.Test.YtbiecdpaididoaaGreatDoorAmF
import Derived.Test.YtbiecdpaididoaaGreatDoorAmC
import Derived.Ground.NamesProg
import Derived.Ground.Names2Prog
import Derived.KernelRfl
import Derived.Test.YtbiecdpaididoaaGreatDoorMdMA
import Derived.Shelf.Small.Strs
import Derived.Shelf.Strconv.Itoa3
import Derived.Shelf.Strconv.AtoiAll
import Derived.Shelf.Strings.Prefix
import Derived.Shelf.Strings.Split
import Derived.Shelf.Strings.OnBuilder
import Derived.Test.YtbiecdpaididoaaGreatDoorAmD
import Derived.RangeFuncLeaves
import Derived.WalkKit
import Derived.OwnWalkIn
import Derived.TacticsInMore
import Derived.LoopNIn
import Derived.LoopIn
import Derived.Test.YtbiecdpaididoaaGreatDoorMdKA
import Derived.RangeFuncBox
import Derived.Lib.SliceRun
import Derived.Test.YtbiecdpaididoaaGreatDoorProg
import Derived.RangeFuncFrom
import Derived.RangeFuncRecord
set_option linter.all false
noncomputable section
namespace Go.Proofs
open Go.Shelf
def Tryz.laysSort_ren:Go.Shelf.Ren:=⟨fun|189=>107|125=>156|257=>155|128=>197|129=>198|294=>188|295=>189|296=>190|297=>191|298=>192|299=>193|216=>194|300=>195|301=>196|328=>234|329=>235|330=>236|331=>237|332=>238|215=>239|343=>252|n=>n,fun|28=>44|3=>3|46=>205|0=>0|51=>245|53=>247|4=>4|183=>237|182=>236|131=>242|5=>5|9=>9|218=>280|222=>284|228=>307|229=>308|n=>n,fun|n=>n⟩
def Tryz.laysSort:Go.Proofs.Lays.n189 Tryz.prog Tryz.laysSort_ren:={
 mixed:=by kernel_rfl
 f125:=Tryz.func156.trans (congrArg some (by kernel_rfl))
 f128:=Tryz.func197.trans (congrArg some (by kernel_rfl))
 f129:=Tryz.func198.trans (congrArg some (by kernel_rfl))
 f189:=Tryz.func107.trans (congrArg some (by kernel_rfl))
 f215:=Tryz.func239.trans (congrArg some (by kernel_rfl))
 f216:=Tryz.func194.trans (congrArg some (by kernel_rfl))
 f257:=Tryz.func155.trans (congrArg some (by kernel_rfl))
 f294:=Tryz.func188.trans (congrArg some (by kernel_rfl))
 f295:=Tryz.func189.trans (congrArg some (by kernel_rfl))
 f296:=Tryz.func190.trans (congrArg some (by kernel_rfl))
 f297:=Tryz.func191.trans (congrArg some (by kernel_rfl))
 f298:=Tryz.func192.trans (congrArg some (by kernel_rfl))
 f299:=Tryz.func193.trans (congrArg some (by kernel_rfl))
 f300:=Tryz.func195.trans (congrArg some (by kernel_rfl))
 f301:=Tryz.func196.trans (congrArg some (by kernel_rfl))
 f328:=Tryz.func234.trans (congrArg some (by kernel_rfl))
 f329:=Tryz.func235.trans (congrArg some (by kernel_rfl))
 f330:=Tryz.func236.trans (congrArg some (by kernel_rfl))
 f331:=Tryz.func237.trans (congrArg some (by kernel_rfl))
 f332:=Tryz.func238.trans (congrArg some (by kernel_rfl))
 f343:=Tryz.func252.trans (congrArg some (by kernel_rfl))
 t0:=Tryz.underlying0
 a0:=Tryz.isAgg0
 z0:=Tryz.sizeOf0
 v0:=Tryz.zeroValue0
 t3:=Tryz.underlying3
 a3:=Tryz.isAgg3
 z3:=Tryz.sizeOf3
 v3:=Tryz.zeroValue3
 t4:=Tryz.underlying4
 a4:=Tryz.isAgg4
 z4:=Tryz.sizeOf4
 v4:=Tryz.zeroValue4
 t5:=Tryz.underlying5
 a5:=Tryz.isAgg5
 z5:=Tryz.sizeOf5
 v5:=Tryz.zeroValue5
 t9:=Tryz.underlying9
 a9:=Tryz.isAgg9
 z9:=Tryz.sizeOf9
 v9:=Tryz.zeroValue9
 t28:=Tryz.underlying44
 a28:=Tryz.isAgg44
 z28:=Tryz.sizeOf44
 v28:=Tryz.zeroValue44
 t46:=Tryz.underlying205
 a46:=Tryz.isAgg205
 z46:=Tryz.sizeOf205
 v46:=Tryz.zeroValue205
 t51:=Tryz.underlying245
 a51:=Tryz.isAgg245
 z51:=Tryz.sizeOf245
 v51:=Tryz.zeroValue245
 t53:=Tryz.underlying247
 a53:=Tryz.isAgg247
 z53:=Tryz.sizeOf247
 v53:=Tryz.zeroValue247
 t131:=Tryz.underlying242
 a131:=Tryz.isAgg242
 z131:=Tryz.sizeOf242
 v131:=Tryz.zeroValue242
 t182:=Tryz.underlying236
 a182:=Tryz.isAgg236
 z182:=Tryz.sizeOf236
 v182:=Tryz.zeroValue236
 t183:=Tryz.underlying237
 a183:=Tryz.isAgg237
 z183:=Tryz.sizeOf237
 v183:=Tryz.zeroValue237
 t218:=Tryz.underlying280
 a218:=Tryz.isAgg280
 z218:=Tryz.sizeOf280
 v218:=Tryz.zeroValue280
 t222:=Tryz.underlying284
 a222:=Tryz.isAgg284
 z222:=Tryz.sizeOf284
 v222:=Tryz.zeroValue284
 t228:=Tryz.underlying307
 a228:=Tryz.isAgg307
 z228:=Tryz.sizeOf307
 v228:=Tryz.zeroValue307
 t229:=Tryz.underlying308
 a229:=Tryz.isAgg308
 z229:=Tryz.sizeOf308
 v229:=Tryz.zeroValue308}
def Tryz.laysCompact_ren:Go.Shelf.Ren:=⟨fun|20=>108|n=>n,fun|22=>44|3=>3|4=>4|0=>0|n=>n,fun|n=>n⟩
def Tryz.laysCompact:Go.Proofs.Lays2.n20 Tryz.prog Tryz.laysCompact_ren:={
 mixed:=by kernel_rfl
 f20:=Tryz.func108.trans (congrArg some (by kernel_rfl))
 t0:=Tryz.underlying0
 a0:=Tryz.isAgg0
 z0:=Tryz.sizeOf0
 v0:=Tryz.zeroValue0
 t3:=Tryz.underlying3
 a3:=Tryz.isAgg3
 z3:=Tryz.sizeOf3
 v3:=Tryz.zeroValue3
 t4:=Tryz.underlying4
 a4:=Tryz.isAgg4
 z4:=Tryz.sizeOf4
 v4:=Tryz.zeroValue4
 t22:=Tryz.underlying44
 a22:=Tryz.isAgg44
 z22:=Tryz.sizeOf44
 v22:=Tryz.zeroValue44
 i3:=by kernel_rfl}
def Tryz.laysIndexByte_ren:Go.Shelf.Ren:=⟨fun|137=>83|217=>137|266=>178|n=>n,fun|9=>9|5=>5|3=>3|n=>n,fun|n=>n⟩
def Tryz.laysIndexByte:Go.Proofs.Lays.n137 Tryz.prog Tryz.laysIndexByte_ren:={
 mixed:=by kernel_rfl
 f137:=Tryz.func83.trans (congrArg some (by kernel_rfl))
 f217:=Tryz.func137.trans (congrArg some (by kernel_rfl))
 f266:=Tryz.func178.trans (congrArg some (by kernel_rfl))
 t3:=Tryz.underlying3
 a3:=Tryz.isAgg3
 z3:=Tryz.sizeOf3
 v3:=Tryz.zeroValue3
 t5:=Tryz.underlying5
 a5:=Tryz.isAgg5
 z5:=Tryz.sizeOf5
 v5:=Tryz.zeroValue5
 t9:=Tryz.underlying9
 a9:=Tryz.isAgg9
 z9:=Tryz.sizeOf9
 v9:=Tryz.zeroValue9}
def Tryz.laysItoa_ren:Go.Shelf.Ren:=⟨fun|171=>68|243=>133|246=>173|283=>217|284=>218|285=>219|286=>220|129=>198|317=>243|318=>244|319=>245|320=>246|337=>253|338=>254|n=>n,fun|3=>3|9=>9|2=>2|4=>4|171=>268|0=>0|53=>247|37=>137|5=>5|173=>270|212=>292|51=>245|20=>20|213=>293|46=>205|232=>314|233=>315|n=>n,fun|17=>1|18=>6|19=>7|n=>n⟩
def Tryz.laysItoa:Go.Proofs.LaysM.n171 Tryz.prog Tryz.laysItoa_ren:={
 mixed:=by kernel_rfl
 f129:=Tryz.func198.trans (congrArg some (by kernel_rfl))
 f171:=Tryz.func68.trans (congrArg some (by kernel_rfl))
 f243:=Tryz.func133.trans (congrArg some (by kernel_rfl))
 f246:=Tryz.func173.trans (congrArg some (by kernel_rfl))
 f283:=Tryz.func217.trans (congrArg some (by kernel_rfl))
 f284:=Tryz.func218.trans (congrArg some (by kernel_rfl))
 f285:=Tryz.func219.trans (congrArg some (by kernel_rfl))
 f286:=Tryz.func220.trans (congrArg some (by kernel_rfl))
 f317:=Tryz.func243.trans (congrArg some (by kernel_rfl))
 f318:=Tryz.func244.trans (congrArg some (by kernel_rfl))
 f319:=Tryz.func245.trans (congrArg some (by kernel_rfl))
 f320:=Tryz.func246.trans (congrArg some (by kernel_rfl))
 f337:=Tryz.func253.trans (congrArg some (by kernel_rfl))
 f338:=Tryz.func254.trans (congrArg some (by kernel_rfl))
 t0:=Tryz.underlying0
 a0:=Tryz.isAgg0
 z0:=Tryz.sizeOf0
 v0:=Tryz.zeroValue0
 t2:=Tryz.underlying2
 a2:=Tryz.isAgg2
 z2:=Tryz.sizeOf2
 v2:=Tryz.zeroValue2
 t3:=Tryz.underlying3
 a3:=Tryz.isAgg3
 z3:=Tryz.sizeOf3
 v3:=Tryz.zeroValue3
 t4:=Tryz.underlying4
 a4:=Tryz.isAgg4
 z4:=Tryz.sizeOf4
 v4:=Tryz.zeroValue4
 t5:=Tryz.underlying5
 a5:=Tryz.isAgg5
 z5:=Tryz.sizeOf5
 v5:=Tryz.zeroValue5
 t9:=Tryz.underlying9
 a9:=Tryz.isAgg9
 z9:=Tryz.sizeOf9
 v9:=Tryz.zeroValue9
 t20:=Tryz.underlying20
 a20:=Tryz.isAgg20
 z20:=Tryz.sizeOf20
 v20:=Tryz.zeroValue20
 t37:=Tryz.underlying137
 a37:=Tryz.isAgg137
 z37:=Tryz.sizeOf137
 v37:=Tryz.zeroValue137
 t46:=Tryz.underlying205
 a46:=Tryz.isAgg205
 z46:=Tryz.sizeOf205
 v46:=Tryz.zeroValue205
 t51:=Tryz.underlying245
 a51:=Tryz.isAgg245
 z51:=Tryz.sizeOf245
 v51:=Tryz.zeroValue245
 t53:=Tryz.underlying247
 a53:=Tryz.isAgg247
 z53:=Tryz.sizeOf247
 v53:=Tryz.zeroValue247
 t171:=Tryz.underlying268
 a171:=Tryz.isAgg268
 z171:=Tryz.sizeOf268
 v171:=Tryz.zeroValue268
 t173:=Tryz.underlying270
 a173:=Tryz.isAgg270
 z173:=Tryz.sizeOf270
 v173:=Tryz.zeroValue270
 t212:=Tryz.underlying292
 a212:=Tryz.isAgg292
 z212:=Tryz.sizeOf292
 v212:=Tryz.zeroValue292
 t213:=Tryz.underlying293
 a213:=Tryz.isAgg293
 z213:=Tryz.sizeOf293
 t232:=Tryz.underlying314
 a232:=Tryz.isAgg314
 z232:=Tryz.sizeOf314
 v232:=Tryz.zeroValue314
 t233:=Tryz.underlying315
 a233:=Tryz.isAgg315
 z233:=Tryz.sizeOf315
 v233:=Tryz.zeroValue315
 g17:=by kernel_rfl
 g18:=by kernel_rfl
 g19:=by kernel_rfl
 i0:=by kernel_rfl
 i2:=by kernel_rfl
 i3:=by kernel_rfl
 i4:=by kernel_rfl
 i5:=by kernel_rfl
 i9:=by kernel_rfl
 i20:=by kernel_rfl
 i37:=by kernel_rfl
 i46:=by kernel_rfl
 i51:=by kernel_rfl
 i53:=by kernel_rfl
 i171:=by kernel_rfl
 i173:=by kernel_rfl
 i212:=by kernel_rfl
 i232:=by kernel_rfl
 i233:=by kernel_rfl
 m17:=by kernel_rfl
 m18:=by kernel_rfl
 m19:=by kernel_rfl}
def Tryz.laysAtoi_ren:Go.Shelf.Ren:=⟨fun|172=>136|244=>176|245=>177|247=>221|279=>222|280=>223|281=>224|282=>225|287=>247|316=>248|171=>68|205=>249|321=>255|322=>256|243=>133|246=>173|283=>217|284=>218|285=>219|286=>220|129=>198|317=>243|318=>244|319=>245|320=>246|337=>253|338=>254|n=>n,fun|9=>9|3=>3|75=>142|76=>143|4=>4|5=>5|167=>272|37=>137|0=>0|85=>273|2=>2|168=>275|53=>247|175=>294|46=>205|210=>298|127=>190|145=>313|143=>311|21=>21|171=>268|173=>270|212=>292|51=>245|20=>20|213=>293|232=>314|233=>315|80=>145|n=>n,fun|15=>2|16=>3|17=>1|18=>6|19=>7|n=>n⟩
def Tryz.laysAtoi:Go.Proofs.LaysC.n172 Tryz.prog Tryz.laysAtoi_ren:={
 mixed:=by kernel_rfl
 f129:=Tryz.func198.trans (congrArg some (by kernel_rfl))
 f171:=Tryz.func68.trans (congrArg some (by kernel_rfl))
 f172:=Tryz.func136.trans (congrArg some (by kernel_rfl))
 f205:=Tryz.func249.trans (congrArg some (by kernel_rfl))
 f243:=Tryz.func133.trans (congrArg some (by kernel_rfl))
 f244:=Tryz.func176.trans (congrArg some (by kernel_rfl))
 f245:=Tryz.func177.trans (congrArg some (by kernel_rfl))
 f246:=Tryz.func173.trans (congrArg some (by kernel_rfl))
 f247:=Tryz.func221.trans (congrArg some (by kernel_rfl))
 f279:=Tryz.func222.trans (congrArg some (by kernel_rfl))
 f280:=Tryz.func223.trans (congrArg some (by kernel_rfl))
 f281:=Tryz.func224.trans (congrArg some (by kernel_rfl))
 f282:=Tryz.func225.trans (congrArg some (by kernel_rfl))
 f283:=Tryz.func217.trans (congrArg some (by kernel_rfl))
 f284:=Tryz.func218.trans (congrArg some (by kernel_rfl))
 f285:=Tryz.func219.trans (congrArg some (by kernel_rfl))
 f286:=Tryz.func220.trans (congrArg some (by kernel_rfl))
 f287:=Tryz.func247.trans (congrArg some (by kernel_rfl))
 f316:=Tryz.func248.trans (congrArg some (by kernel_rfl))
 f317:=Tryz.func243.trans (congrArg some (by kernel_rfl))
 f318:=Tryz.func244.trans (congrArg some (by kernel_rfl))
 f319:=Tryz.func245.trans (congrArg some (by kernel_rfl))
 f320:=Tryz.func246.trans (congrArg some (by kernel_rfl))
 f321:=Tryz.func255.trans (congrArg some (by kernel_rfl))
 f322:=Tryz.func256.trans (congrArg some (by kernel_rfl))
 f337:=Tryz.func253.trans (congrArg some (by kernel_rfl))
 f338:=Tryz.func254.trans (congrArg some (by kernel_rfl))
 t0:=Tryz.underlying0
 a0:=Tryz.isAgg0
 z0:=Tryz.sizeOf0
 v0:=Tryz.zeroValue0
 t2:=Tryz.underlying2
 a2:=Tryz.isAgg2
 z2:=Tryz.sizeOf2
 v2:=Tryz.zeroValue2
 t3:=Tryz.underlying3
 a3:=Tryz.isAgg3
 z3:=Tryz.sizeOf3
 v3:=Tryz.zeroValue3
 t4:=Tryz.underlying4
 a4:=Tryz.isAgg4
 z4:=Tryz.sizeOf4
 v4:=Tryz.zeroValue4
 t5:=Tryz.underlying5
 a5:=Tryz.isAgg5
 z5:=Tryz.sizeOf5
 v5:=Tryz.zeroValue5
 t9:=Tryz.underlying9
 a9:=Tryz.isAgg9
 z9:=Tryz.sizeOf9
 v9:=Tryz.zeroValue9
 t20:=Tryz.underlying20
 a20:=Tryz.isAgg20
 z20:=Tryz.sizeOf20
 v20:=Tryz.zeroValue20
 t21:=Tryz.underlying21
 a21:=Tryz.isAgg21
 z21:=Tryz.sizeOf21
 v21:=Tryz.zeroValue21
 t37:=Tryz.underlying137
 a37:=Tryz.isAgg137
 z37:=Tryz.sizeOf137
 v37:=Tryz.zeroValue137
 t46:=Tryz.underlying205
 a46:=Tryz.isAgg205
 z46:=Tryz.sizeOf205
 v46:=Tryz.zeroValue205
 t51:=Tryz.underlying245
 a51:=Tryz.isAgg245
 z51:=Tryz.sizeOf245
 v51:=Tryz.zeroValue245
 t53:=Tryz.underlying247
 a53:=Tryz.isAgg247
 z53:=Tryz.sizeOf247
 v53:=Tryz.zeroValue247
 t75:=Tryz.underlying142
 a75:=Tryz.isAgg142
 z75:=Tryz.sizeOf142
 v75:=Tryz.zeroValue142
 t76:=Tryz.underlying143
 a76:=Tryz.isAgg143
 z76:=Tryz.sizeOf143
 v76:=Tryz.zeroValue143
 t85:=Tryz.underlying273
 a85:=Tryz.isAgg273
 z85:=Tryz.sizeOf273
 v85:=Tryz.zeroValue273
 t127:=Tryz.underlying190
 a127:=Tryz.isAgg190
 z127:=Tryz.sizeOf190
 v127:=Tryz.zeroValue190
 t143:=Tryz.underlying311
 a143:=Tryz.isAgg311
 z143:=Tryz.sizeOf311
 v143:=Tryz.zeroValue311
 t145:=Tryz.underlying313
 a145:=Tryz.isAgg313
 z145:=Tryz.sizeOf313
 v145:=Tryz.zeroValue313
 t167:=Tryz.underlying272
 a167:=Tryz.isAgg272
 z167:=Tryz.sizeOf272
 v167:=Tryz.zeroValue272
 t168:=Tryz.underlying275
 a168:=Tryz.isAgg275
 z168:=Tryz.sizeOf275
 v168:=Tryz.zeroValue275
 t171:=Tryz.underlying268
 a171:=Tryz.isAgg268
 z171:=Tryz.sizeOf268
 v171:=Tryz.zeroValue268
 t173:=Tryz.underlying270
 a173:=Tryz.isAgg270
 z173:=Tryz.sizeOf270
 v173:=Tryz.zeroValue270
 t175:=Tryz.underlying294
 a175:=Tryz.isAgg294
 z175:=Tryz.sizeOf294
 v175:=Tryz.zeroValue294
 t210:=Tryz.underlying298
 a210:=Tryz.isAgg298
 z210:=Tryz.sizeOf298
 v210:=Tryz.zeroValue298
 t212:=Tryz.underlying292
 a212:=Tryz.isAgg292
 z212:=Tryz.sizeOf292
 v212:=Tryz.zeroValue292
 t213:=Tryz.underlying293
 a213:=Tryz.isAgg293
 z213:=Tryz.sizeOf293
 t232:=Tryz.underlying314
 a232:=Tryz.isAgg314
 z232:=Tryz.sizeOf314
 v232:=Tryz.zeroValue314
 t233:=Tryz.underlying315
 a233:=Tryz.isAgg315
 z233:=Tryz.sizeOf315
 v233:=Tryz.zeroValue315
 g15:=by kernel_rfl
 g16:=by kernel_rfl
 g17:=by kernel_rfl
 g18:=by kernel_rfl
 g19:=by kernel_rfl
 t80:=Tryz.underlying145
 a80:=Tryz.isAgg145
 z80:=Tryz.sizeOf145
 v80:=Tryz.zeroValue145
 i0:=by kernel_rfl
 i2:=by kernel_rfl
 i3:=by kernel_rfl
 i4:=by kernel_rfl
 i5:=by kernel_rfl
 i9:=by kernel_rfl
 i20:=by kernel_rfl
 i21:=by kernel_rfl
 i37:=by kernel_rfl
 i46:=by kernel_rfl
 i51:=by kernel_rfl
 i53:=by kernel_rfl
 i75:=by kernel_rfl
 i76:=by kernel_rfl
 i80:=by kernel_rfl
 i85:=by kernel_rfl
 i127:=by kernel_rfl
 i143:=by kernel_rfl
 i145:=by kernel_rfl
 i167:=by kernel_rfl
 i168:=by kernel_rfl
 i171:=by kernel_rfl
 i173:=by kernel_rfl
 i175:=by kernel_rfl
 i210:=by kernel_rfl
 i212:=by kernel_rfl
 i232:=by kernel_rfl
 i233:=by kernel_rfl
 m15:=by kernel_rfl
 m16:=by kernel_rfl
 m17:=by kernel_rfl
 m18:=by kernel_rfl
 m19:=by kernel_rfl
 c0:=by kernel_rfl
 c2:=by kernel_rfl
 c3:=by kernel_rfl
 c4:=by kernel_rfl
 c5:=by kernel_rfl
 c9:=by kernel_rfl
 c20:=by kernel_rfl
 c21:=by kernel_rfl
 c37:=by kernel_rfl
 c46:=by kernel_rfl
 c51:=by kernel_rfl
 c53:=by kernel_rfl
 c75:=by kernel_rfl
 c76:=by kernel_rfl
 c80:=by kernel_rfl
 c85:=by kernel_rfl
 c127:=by kernel_rfl
 c143:=by kernel_rfl
 c145:=by kernel_rfl
 c167:=by kernel_rfl
 c168:=by kernel_rfl
 c171:=by kernel_rfl
 c173:=by kernel_rfl
 c175:=by kernel_rfl
 c210:=by kernel_rfl
 c212:=by kernel_rfl
 c213:=by kernel_rfl
 c232:=by kernel_rfl
 c233:=by kernel_rfl}
def Tryz.laysTrimSuffix_ren:Go.Shelf.Ren:=⟨fun|102=>29|209=>85|207=>141|n=>n,fun|9=>9|4=>4|3=>3|n=>n,fun|n=>n⟩
def Tryz.laysTrimSuffix:Go.Proofs.Lays.n102 Tryz.prog Tryz.laysTrimSuffix_ren:={
 mixed:=by kernel_rfl
 f102:=Tryz.func29.trans (congrArg some (by kernel_rfl))
 f207:=Tryz.func141.trans (congrArg some (by kernel_rfl))
 f209:=Tryz.func85.trans (congrArg some (by kernel_rfl))
 t3:=Tryz.underlying3
 a3:=Tryz.isAgg3
 z3:=Tryz.sizeOf3
 v3:=Tryz.zeroValue3
 t4:=Tryz.underlying4
 a4:=Tryz.isAgg4
 z4:=Tryz.sizeOf4
 v4:=Tryz.zeroValue4
 t9:=Tryz.underlying9
 a9:=Tryz.isAgg9
 z9:=Tryz.sizeOf9
 v9:=Tryz.zeroValue9}
def Tryz.laysSplit_ren:Go.Shelf.Ren:=⟨fun|146=>28|221=>84|268=>138|138=>139|143=>140|195=>179|197=>180|218=>181|219=>182|260=>226|217=>137|225=>227|224=>228|267=>229|266=>178|314=>250|n=>n,fun|9=>9|31=>80|3=>3|4=>4|0=>0|105=>226|21=>21|5=>5|46=>205|119=>300|139=>303|138=>302|146=>304|51=>245|n=>n,fun|1=>0|3=>4|4=>5|n=>n⟩
def Tryz.laysSplit:Go.Proofs.Lays.n146 Tryz.prog Tryz.laysSplit_ren:={
 mixed:=by kernel_rfl
 f138:=Tryz.func139.trans (congrArg some (by kernel_rfl))
 f143:=Tryz.func140.trans (congrArg some (by kernel_rfl))
 f146:=Tryz.func28.trans (congrArg some (by kernel_rfl))
 f195:=Tryz.func179.trans (congrArg some (by kernel_rfl))
 f197:=Tryz.func180.trans (congrArg some (by kernel_rfl))
 f217:=Tryz.func137.trans (congrArg some (by kernel_rfl))
 f218:=Tryz.func181.trans (congrArg some (by kernel_rfl))
 f219:=Tryz.func182.trans (congrArg some (by kernel_rfl))
 f221:=Tryz.func84.trans (congrArg some (by kernel_rfl))
 f224:=Tryz.func228.trans (congrArg some (by kernel_rfl))
 f225:=Tryz.func227.trans (congrArg some (by kernel_rfl))
 f260:=Tryz.func226.trans (congrArg some (by kernel_rfl))
 f266:=Tryz.func178.trans (congrArg some (by kernel_rfl))
 f267:=Tryz.func229.trans (congrArg some (by kernel_rfl))
 f268:=Tryz.func138.trans (congrArg some (by kernel_rfl))
 f314:=Tryz.func250.trans (congrArg some (by kernel_rfl))
 t0:=Tryz.underlying0
 a0:=Tryz.isAgg0
 z0:=Tryz.sizeOf0
 v0:=Tryz.zeroValue0
 t3:=Tryz.underlying3
 a3:=Tryz.isAgg3
 z3:=Tryz.sizeOf3
 v3:=Tryz.zeroValue3
 t4:=Tryz.underlying4
 a4:=Tryz.isAgg4
 z4:=Tryz.sizeOf4
 v4:=Tryz.zeroValue4
 t5:=Tryz.underlying5
 a5:=Tryz.isAgg5
 z5:=Tryz.sizeOf5
 v5:=Tryz.zeroValue5
 t9:=Tryz.underlying9
 a9:=Tryz.isAgg9
 z9:=Tryz.sizeOf9
 v9:=Tryz.zeroValue9
 t21:=Tryz.underlying21
 a21:=Tryz.isAgg21
 z21:=Tryz.sizeOf21
 v21:=Tryz.zeroValue21
 t31:=Tryz.underlying80
 a31:=Tryz.isAgg80
 z31:=Tryz.sizeOf80
 v31:=Tryz.zeroValue80
 t46:=Tryz.underlying205
 a46:=Tryz.isAgg205
 z46:=Tryz.sizeOf205
 v46:=Tryz.zeroValue205
 t51:=Tryz.underlying245
 a51:=Tryz.isAgg245
 z51:=Tryz.sizeOf245
 v51:=Tryz.zeroValue245
 t105:=Tryz.underlying226
 a105:=Tryz.isAgg226
 z105:=Tryz.sizeOf226
 v105:=Tryz.zeroValue226
 t119:=Tryz.underlying300
 a119:=Tryz.isAgg300
 z119:=Tryz.sizeOf300
 t138:=Tryz.underlying302
 a138:=Tryz.isAgg302
 z138:=Tryz.sizeOf302
 v138:=Tryz.zeroValue302
 t139:=Tryz.underlying303
 a139:=Tryz.isAgg303
 z139:=Tryz.sizeOf303
 v139:=Tryz.zeroValue303
 t146:=Tryz.underlying304
 a146:=Tryz.isAgg304
 z146:=Tryz.sizeOf304
 v146:=Tryz.zeroValue304
 g1:=by kernel_rfl
 g3:=by kernel_rfl
 g4:=by kernel_rfl}
def Tryz.laysJoin_ren:Go.Shelf.Ren:=⟨fun|156=>25|165=>69|166=>70|169=>71|240=>134|241=>135|276=>174|277=>175|n=>n,fun|31=>80|9=>9|3=>3|4=>4|0=>0|20=>20|72=>139|76=>143|70=>136|37=>137|75=>142|127=>190|164=>222|5=>5|80=>145|n=>n,fun|n=>n⟩
def Tryz.laysJoin:Go.Proofs.Lays.n156 Tryz.prog Tryz.laysJoin_ren:={
 mixed:=by kernel_rfl
 f156:=Tryz.func25.trans (congrArg some (by kernel_rfl))
 f165:=Tryz.func69.trans (congrArg some (by kernel_rfl))
 f166:=Tryz.func70.trans (congrArg some (by kernel_rfl))
 f169:=Tryz.func71.trans (congrArg some (by kernel_rfl))
 f240:=Tryz.func134.trans (congrArg some (by kernel_rfl))
 f241:=Tryz.func135.trans (congrArg some (by kernel_rfl))
 f276:=Tryz.func174.trans (congrArg some (by kernel_rfl))
 f277:=Tryz.func175.trans (congrArg some (by kernel_rfl))
 t0:=Tryz.underlying0
 a0:=Tryz.isAgg0
 z0:=Tryz.sizeOf0
 v0:=Tryz.zeroValue0
 t3:=Tryz.underlying3
 a3:=Tryz.isAgg3
 z3:=Tryz.sizeOf3
 v3:=Tryz.zeroValue3
 t4:=Tryz.underlying4
 a4:=Tryz.isAgg4
 z4:=Tryz.sizeOf4
 v4:=Tryz.zeroValue4
 t9:=Tryz.underlying9
 a9:=Tryz.isAgg9
 z9:=Tryz.sizeOf9
 v9:=Tryz.zeroValue9
 t20:=Tryz.underlying20
 a20:=Tryz.isAgg20
 z20:=Tryz.sizeOf20
 v20:=Tryz.zeroValue20
 t31:=Tryz.underlying80
 a31:=Tryz.isAgg80
 z31:=Tryz.sizeOf80
 v31:=Tryz.zeroValue80
 t37:=Tryz.underlying137
 a37:=Tryz.isAgg137
 z37:=Tryz.sizeOf137
 v37:=Tryz.zeroValue137
 t70:=Tryz.underlying136
 a70:=Tryz.isAgg136
 z70:=Tryz.sizeOf136
 v70:=Tryz.zeroValue136
 t72:=Tryz.underlying139
 a72:=Tryz.isAgg139
 z72:=Tryz.sizeOf139
 v72:=Tryz.zeroValue139
 t75:=Tryz.underlying142
 a75:=Tryz.isAgg142
 z75:=Tryz.sizeOf142
 v75:=Tryz.zeroValue142
 t76:=Tryz.underlying143
 a76:=Tryz.isAgg143
 z76:=Tryz.sizeOf143
 v76:=Tryz.zeroValue143
 t127:=Tryz.underlying190
 a127:=Tryz.isAgg190
 z127:=Tryz.sizeOf190
 v127:=Tryz.zeroValue190
 t164:=Tryz.underlying222
 a164:=Tryz.isAgg222
 z164:=Tryz.sizeOf222
 v164:=Tryz.zeroValue222}
end Go.Proofs
end

noncomputable section
namespace Go.Proofs
end Go.Proofs
namespace Go.Proofs.ZzM
open Go Go.Am Go.RowKit
set_option maxRecDepth 100000
end Go.Proofs.ZzM
namespace Go.Proofs
def Tryz.builderX:Builder.Extra Tryz.prog Tryz.laysJoin_ren:=⟨⟨by kernel_rfl,by kernel_rfl⟩,Tryz.underlying5,Tryz.isAgg5,Tryz.sizeOf5,Tryz.zeroValue5,by kernel_rfl,by kernel_rfl,by kernel_rfl,by decide⟩
end Go.Proofs
namespace Go.Proofs.ZzM
open Go Go.Am Go.RowKit
abbrev gMax:Nat:=Tryz.laysSplit_ren.g 1
abbrev gSyn:Nat:=Tryz.laysAtoi_ren.g 15
abbrev gRng:Nat:=Tryz.laysAtoi_ren.g 16
def gMax_lt:gMax<Tryz.prog.globals.size:=of_decide_eq_true (by kernel_rfl)
def RA:gSyn<Tryz.prog.globals.size:=of_decide_eq_true (by kernel_rfl)
def RB:gRng<Tryz.prog.globals.size:=of_decide_eq_true (by kernel_rfl)
abbrev gPow : Nat := (Tryz.prog.globalNamed "internal/strconv.uint64pow10").getD 0
def RD : Tryz.prog.globalNamed "internal/strconv.uint64pow10" = some gPow := by kernel_rfl
def RC:gPow<Tryz.prog.globals.size:=of_decide_eq_true (by kernel_rfl)
def Nn (w:World) (g:Nat):Prop:=∃ev,w.cell? ⟨g,0,none⟩=some ev/\(ev=.nilIface\/∃a b,ev=.iface a b)
structure GlobW (w:World):Prop where
 pow : Lib.TabIs Tryz.prog w "internal/strconv.uint64pow10" .u64 Lib.pow10Tab
 max:∃m,w.cell? ⟨gMax,0,none⟩=some (.int .i64 m)
 syn:Nn w gSyn
 rng:Nn w gRng
 cel:∀b,b<Tryz.prog.globals.size->∃c e r,w.heap[b]?=some (.cells c e r)
def zK {w w':World} {b:Nat} (h:w'.heap[b]?=w.heap[b]?) (i:Nat):w'.cell? ⟨b,i,none⟩=w.cell? ⟨b,i,none⟩:=by
 unfold World.cell?; simp only[h]
instance:Globs where
 n:=Tryz.prog.globals.size
 Φ:=GlobW
 keep:=fun w w' H a=>by
  obtain⟨c,⟨m,h2⟩,⟨j,h,g⟩,⟨i,f,e⟩,d⟩:=H;refine⟨?_,⟨m,(zK (a _ gMax_lt) 0).trans h2⟩,⟨j,(zK (a _ RA) 0).trans h,g⟩,⟨i,(zK (a _ RB) 0).trans f,e⟩,fun b hb=>by rw[a b hb]; exact d b hb⟩;unfold Lib.TabIs World.var? at c ⊢;rw[RD] at c ⊢;simp only[Option.bind_some] at c ⊢;rw[a _ RC]; exact c
 cel:=fun w H=>H.cel
def HQ (w:World) (t:TypeId) (x:ByteArray):Below w.heap.size w (Lib.bytesWorld w t x):=⟨rfl,rfl,rfl,by rw[Lib.bytesWorld_size]; omega,fun j a=>Lib.bytesWorld_at_old w t x j a⟩
def fItoa:Tryz.laysItoa_ren.f 171=68:=by kernel_rfl
def fTrim:Tryz.laysTrimSuffix_ren.f 102=29:=by kernel_rfl
def fIndex:Tryz.laysIndexByte_ren.f 137=83:=by kernel_rfl
def fSplit:Tryz.laysSplit_ren.f 146=28:=by kernel_rfl
def fJoin:Tryz.laysJoin_ren.f 156=25:=by kernel_rfl
def rP:Š Tryz.prog 83 ο:=fB ⟨_,_,Tryz.func83,rfl⟩ fun G x y g w vals k b a=>by
 obtain⟨j,vs,rfl,h,i,rfl,h2⟩:=a;rw[vM h,Oh h2];have c:some (Lib.indexByte x.1.data.toList x.2.toNat.toUInt8)=some y:=g;cases c;have:=Any.strings_IndexByte Tryz.laysIndexByte x.1 x.2 w;rw[fIndex] at this;exact this.mono fun e w' ⟨f,d⟩=>⟨_,f,int_arg _ _,by rw[d]; exact Below.refl _ _⟩
def qd:Š Tryz.prog 29 iu:=fB ⟨_,_,Tryz.func29,rfl⟩ fun G x y a w vals k c b=>by
 obtain⟨j,vs,rfl,h,i,rfl,h2⟩:=b;rw[vM h,vM h2];have a:Lq x.1 x.2=some y:=a;unfold Lq at a
 split at a<;>cases a
 rename_i f;have:=Any.strings_TrimSuffix Tryz.laysTrimSuffix x.1 x.2 w f;rw[fTrim] at this;exact this.mono fun e w' ⟨g,d⟩=>⟨_,g,Cp _,by rw[d]; exact Below.refl _ _⟩
def AW:Š Tryz.prog 68 qn:=fB ⟨_,_,Tryz.func68,rfl⟩ fun G x y a w vals m c f=>by
 obtain⟨j,rfl,i⟩:=f;rw[Oh i];have a:M3 x=some y:=a;unfold M3 at a
 split at a<;>cases a
 rename_i d;simp only[i64B,bu,decide_eq_true_eq] at d;have:=Any.strconv_Itoa Tryz.laysItoa x d.1 d.2 w c.pow;rw[fItoa] at this;exact this.mono fun e w' ⟨h, k, os, g⟩ => ⟨_, h, Cp _, by rw [g]; exact ⟨rfl, rfl, rfl, by simp [«Sort».grow, World.drewN], fun b hb => by simp [«Sort».grow, World.drewN, cY, hb]⟩⟩
def zN:Š Tryz.prog 28 nZ:=fB ⟨_,_,Tryz.func28,rfl⟩ fun G x y b w vals j d f=>by
 obtain⟨p,vs,rfl,k,o,rfl,h2⟩:=f;rw[vM k,vM h2];have b:Ea x.1 x.2=some y:=b;unfold Ea at b
 split at b<;>cases b
 rename_i c;simp only[bu,decide_eq_true_eq] at c;obtain⟨m,h⟩:=d.max;have:=Any.strings_Split Tryz.laysSplit (by kernel_rfl) x.1 x.2 m w c.1 h c.2;rw[fSplit] at this;have a:=Lib.splitB_all x.2 c.2 0 _ x.1 rfl;exact this.mono fun e w' ⟨i,g⟩=>⟨_,i,by rw[g,<-a]; exact OT (World.alloc_heap_new w _) (fun hb=>absurd (j _ hb) (Nat.lt_irrefl _)) rfl,by rw[g]; exact(Below.refl _ _).alloc (bt _) _⟩
def AU:Š Tryz.prog 25 qm:=fB ⟨_,_,Tryz.func25,rfl⟩ fun G x y c w vals r i h=>by
 obtain⟨q,vs,rfl,m,p,rfl,h2⟩:=h;obtain⟨xs,a⟩:=x;rw[vM h2];obtain⟨base,cap,rfl,j,k⟩:=Qe m;have c:MY xs a=some y:=c;unfold MY at c
 split at c<;>cases c
 rename_i f;simp only[bu,decide_eq_true_eq] at f;rcases k with rfl|⟨b,o,rfl,hb,hcells⟩
 ·have:=Any.strings_Join_none Tryz.laysJoin Tryz.builderX base cap a w;rw[fJoin] at this;exact this.mono fun e w' ⟨g,d⟩=>⟨_,g,Cp _,by rw[d]; exact Below.refl _ _⟩
 ·have:=Any.strings_Join Tryz.laysJoin Tryz.builderX b o cap xs a w hcells hb f.1 j f.2;rw[fJoin] at this;exact this.mono fun e w' ⟨g,d⟩=>⟨_,g,Cp _,d⟩
def RG:Tryz.laysAtoi_ren.f 172=136:=by kernel_rfl
def AX:XOk Tryz.prog 136 .atoi:=show OA Tryz.prog 136 from⟨⟨_,_,Tryz.func136,rfl⟩,fun w s r a f=>by
 unfold Oc at f
 split at f<;>cases f
 rename_i d;have d:=of_decide_eq_true d
 cases ha:Lib.atoiAll s.data.toList with
 |ok v =>
  have:=Any.strconv_Atoi_ok Tryz.laysAtoi s (by omega) v ha w;rw[RG] at this;refine this.mono fun e w' ⟨c,b⟩=>⟨.nilIface,c,rfl,fun _=>rfl,fun h=>(by cases h),?_⟩;rcases b with rfl|⟨t,rfl⟩
  ·exact Below.refl _ _
  ·exact HQ _ _ _
 | range =>
  obtain⟨ev,g,h2⟩:=a.rng;have:=Any.strconv_Atoi_range Tryz.laysAtoi s d ha ev w g h2;rw[RG] at this
  exact this.mono fun e w' ⟨N,c,_,_,b⟩=>⟨_,c,rfl,fun h=>(by cases h),fun _=>⟨_,_,rfl⟩,b⟩
 | _ =>
  obtain⟨ev,g,h2⟩:=a.syn;have:=Any.strconv_Atoi_syntax Tryz.laysAtoi s d ha ev w g h2;rw[RG] at this;exact this.mono fun e w' ⟨N,c,_,_,b⟩=>⟨_,c,rfl,fun h=>(by cases h),fun _=>⟨_,_,rfl⟩,b⟩⟩
end Go.Proofs.ZzM
end

noncomputable section
namespace Go.Proofs.ZzM
open Go Go.Am Go.RowKit
set_option maxRecDepth 100000
noncomputable def lfC:Code->Code
 |.seq a _=>a
 |_=>.skip
noncomputable def lsC:Code->Code
 |.seq _ b=>b
 |_=>.skip
noncomputable def lbC:Code->Code
 |.block _ b=>b
 |_=>.skip
noncomputable def llC:Code->Code
 |.loop b=>b
 |_=>.skip
noncomputable def liB:Code:=Tryz.f82.body.getD .skip
noncomputable def li0:Code:=lfC (llC (lbC liB))
noncomputable def li1:Code:=lbC (lsC (llC (lbC liB)))
noncomputable def liR:Code:=lfC li1
noncomputable def liM:Code:=lfC (lsC li1)
noncomputable def liY:Code:=lfC (lsC (lsC li1))
noncomputable def liC:Code:=lsC (lsC (lsC li1))
def liB_eq:liB=.block 0 (.loop (.seq li0 (.block 1 (.seq liR (.seq liM (.seq liY liC)))))):=by kernel_rfl
def QE:Tryz.f82.body=some liB:=by kernel_rfl
noncomputable def liE (ρ:Type):Env ρ:={P:=Tryz.prog,eat:=fun _ _=>false,clone:=fun _=>false,sort:=fun _=>false,compact:=fun _=>false,inl:=fun _=>false,fz:=fun _=>false,pure:=AO [(83,ο)],loops:=Ř [],ranges:=gK []}
abbrev liT:Type:=Exit×AV×AV×AV×AS Blk×Nat×Bool
def liK (e:Exit) (S:St):AN liT:=some (e,lk S.t 0,lk S.t 1,lk S.t 3,S.h,S.t.length,true)
def liS (s:ByteArray) (x:AV):St:={t:=[.yld,.box 0 0,.any,x]++List.replicate 21 .any,h:=[.cells [.str s]]}
def li_0 (s:ByteArray):goC (liE liT) (Α (liE liT) 10) 82 [] 1 0 li0 (liS s .any) liK=ifb (igt (EP s.size) 0) (some (.normal,.yld,.box 0 0,.any,[.cells [.str s]],25,true)) (some (.exit 0,.yld,.box 0 0,.any,[.cells [.str s]],25,true)):=by kernel_rfl
def li_R (s:ByteArray):goC (liE liT) (Α (liE liT) 10) 82 [] 1 1 liR (liS s .any) liK=some (.normal,.yld,.box 0 0,.str ⟨#[]⟩,[.cells [.str s]],25,true):=by kernel_rfl
noncomputable def PA (s:ByteArray) (r:Int):AN liT :=
 ifb (ige r 0) (match decide (0<=Li (r+1))&&decide (Li (r+1)<=s.size) with
  |true=>match decide (0<=Li (r+1))&&decide (Li (r+1)<=s.size) with
   |true=>some (.normal,.yld,.box 0 0,.str (s.extract 0 (Li (r+1)).toNat),[.cells [.str (s.extract (Li (r+1)).toNat s.size)]],25,true)
   |false=>none
  |false=>none) (some (.normal,.yld,.box 0 0,.str s,[.cells [.str ⟨#[]⟩]],25,true))
def li_M (s:ByteArray):goC (liE liT) (Α (liE liT) 10) 82 [] 1 1 liM (liS s .any) liK=PA s (Lib.indexByte s.data.toList ((10:Int).toNat.toUInt8)):=by kernel_rfl
def li_C (s:ByteArray) (b:Bool):goC (liE liT) (Α (liE liT) 10) 82 [] 1 1 liC {(liS s .any) with t:=upd (liS s .any).t 24 (.bool b)} liK=ifb b (some (.ret,.yld,.box 0 0,.any,[.cells [.str s]],25,true)) (some (.normal,.yld,.box 0 0,.any,[.cells [.str s]],25,true)):=by kernel_rfl
noncomputable def liP (k:Nat):String:=match liY with
 | .region _ ops _ => ((ops[k]?).map fun o => o.pos).getD ""
 | _ => ""
def liY_eq:liY=.region 6 #[{dst:=some 21,op:=.move (.tmp 0),type:=151,pos:=liP 0,after:=#[],guard:=none},{dst:=some 22,op:=.move (.tmp 3),type:=9,pos:=liP 1,after:=#[],guard:=none},{dst:=some 23,op:=.call ⟨.value (.tmp 21),#[.tmp 22],#[9]⟩,type:=4,pos:=liP 2,after:=#[⟨0,.data⟩,⟨1,.data⟩],guard:=none},{dst:=some 24,op:=.unOp .not 4 (.tmp 23),type:=4,pos:=liP 3,after:=#[⟨2,.data⟩],guard:=none}] false:=by kernel_rfl
attribute [local go_sem] Oper.semAt_some
set_option maxHeartbeats 1000000 in
def li_Y {l:Nat} {y:ByteArray} {a:Act} {W:World} {R:Ending->World->Prop} {Q:Exit->Act->World->Prop} (h0:a.tmps.getD 0 undef=.func (.yield l) #[] #[]) (h3:a.tmps.getD 3 undef=.string y) (hs:25<=a.tmps.size) (hY:YieldAt Fence.wide 0 Tryz.prog l #[.string y] W R)
 (hR:∀e W',R e W'->∃b,e=.returned (.bool b)/\∀a':Act,a'.defers=a.defers->a'.tmps.size=a.tmps.size->a'.tmps.getD 0 undef=a.tmps.getD 0 undef->a'.tmps.getD 1 undef=a.tmps.getD 1 undef->a'.tmps.getD 24 undef=.bool (!b)->Q .normal a' W'):liY.wpIn Fence.wide 0 Tryz.prog Q a W:=by
 obtain⟨fn,tmps,assign,body,hy,hR2⟩:=hY;obtain⟨T,D⟩:=a;dsimp only at *;rw[liY_eq];rw[Array.getD_eq_getD_getElem?] at h3
 gi_wp2
 rename_i K hK q1;refine⟨rfl,RoundIn.mono (show RoundIn Fence.wide 0 Tryz.prog _ _ _ _ _ _ _ from hR2) fun e W' he=>?_⟩;obtain⟨b,rfl,hb⟩:=hR e W' he;apply hK
 gi_wp2
 refine hb _ rfl (by simp) ?_ ?_ ?_
 ·simp[bS,cf]
 ·simp[bS,cf]
 ·simp[bS,cf,show 24<T.size by omega]
def hmixL:Tryz.prog.follows .mixedOrders=true:=by kernel_rfl
def Rf : (Tryz.prog.funcs.toList.all fun fn => !(fn.name == "runtime.NumGoroutine")) = true := by kernel_rfl
def plainL (f : Nat) (fn : Func) (h : Tryz.prog.funcs[f]? = some fn) : (fn.name == "runtime.NumGoroutine") = false := by
 have:=bR.1 Rf fn (bI (i:=f) (by simpa using h));simpa using this
def li_lib [É] (b:ř (liE liT)):xc (liE liT) where
 pure:=fun f p h=>by
  have a:AO [(83,ο)] f=some p:=h;unfold AO at a
  split at a
  ·rename_i hb;cases a;obtain rfl:=bD hb;exact rP
  ·cases a
 sort:=fun f h=>by cases h
 compact:=fun f h=>by cases h
 plain:=plainL
 clone:=fun g c=>by cases c
 joins:=gw rfl
 yld:=b
 ext:=fun f X h=>by cases h
def Me [É] {path:AS Nat} {fid bid:Nat} {b:LI}:fq (liE liT) path fid bid b:=by
 cases b with
 |lp b=>exact fun m S K r ν a w e=>by cases e
 |rf g ps x y=>exact fun m S K r ν a w e=>by cases e
def QD [É]:ψ (liE liT) 2 (Α (liE liT) 10) :=
 mY (fun {_} b=>li_lib b) (fun L call a=>gC hmixL L call a) (fun n d a _ _ path f fn c _ _ _ z _=>Me) 10 (bt _) (gE rfl)
def QC:∀(n i:Nat),lk (List.replicate n AV.any) i=.any
 |0,i=>by cases i<;>rfl
 |n+1,0=>rfl
 |n+1,i+1=>QC n i
def Rr (s:ByteArray) (i:Nat):lk (liS s .any).t (i+2)=.any:=by
 rcases i with _|_|i
 ·rfl
 ·rfl
 ·exact QC 21 i
structure HY (n0 l b0:Nat) (s:ByteArray) (a:Act) (W:World):Prop where
 defers:∃ms:AS Nat,a.defers=ms.map mk1/\ms.Nodup/\∀k∈ms,W.heap[k]?=some (.deferred (some []))/\n0<=k
 size0:n0<=W.heap.size
 size:25<=a.tmps.size
 t0:a.tmps.getD 0 undef=.func (.yield l) #[] #[]
 t1:a.tmps.getD 1 undef=.pointer (some ⟨b0,0,none⟩)
 box:∃te,W.heap[b0]?=some (.cells #[.string s] te (0,0))
 glob:Globs.Φ W
@[reducible] def Gl (n0 l:Nat):É:=⟨fun _=>False,[],none,n0,l,0,.unit,fun _ _ _ _=>False,fun _ _ _ _ _ _ h=>h.elim⟩
def HY.sim {n0 l b0:Nat} {s:ByteArray} {a:Act} {W:World} (H:HY n0 l b0 s a W) (c:¬b0<Globs.n):@Sim _ (Gl n0 l) (fun _=>.pointer (some ⟨b0,0,none⟩)) (liS s .any) a W:=by
 letI g:É:=Gl n0 l
 obtain⟨f,hb⟩:=H.box;obtain⟨ms,m1,o,m⟩:=H.defers;refine⟨⟨⟨ms,by rw[m1]; exact(bW _).symm,o,fun k r=>m k r⟩,fun l q=>(by cases q),b6 _,H.size0⟩,H.size,fun i=>?_,?_⟩
 ·rcases i with _|_|i
  ·exact H.t0
  ·exact⟨[.str s],b0,rfl,rfl,H.t1⟩
  ·rw[Rr]; trivial
 ·refine⟨fun i=>?_,fun i j b hi e _ _=>?_,fun _ h=>h.elim,fun _ _ _ _ h=>h,H.glob,fun b d ⟨i,hi,p⟩=>?_⟩
  ·rcases i with _|i
   ·exact⟨b0,#[.string s],f,rfl,hb,⟨⟨rfl,rfl⟩,trivial⟩⟩
   ·rw[show lkB (liS s .any).h (i+1)=.dead from wq _ _ (Nat.succ_le_succ (b6 i))]; trivial
  ·rcases i with _|i
   ·rcases j with _|j
    ·rfl
    ·rw[show lkB (liS s .any).h (j+1)=.dead from wq _ _ (Nat.succ_le_succ (b6 j))] at e; cases e
   ·rw[show lkB (liS s .any).h (i+1)=.dead from wq _ _ (Nat.succ_le_succ (b6 i))] at hi; cases hi
  ·cases p; exact c d
structure wC (b0:Nat) (W W':World):Prop where
 size:W.heap.size<=W'.heap.size
 same:∀b,b<W.heap.size->b≠b0->W'.heap[b]?=W.heap[b]?
 os:W'.os=W.os
 tape:W'.tape=W.tape
 output:W'.output=W.output
noncomputable def y0 {n0 l b0:Nat} {S:St} {s s':ByteArray} {a:Act} {W:World} {c:Code} {bid:Nat} {e:Exit} {x:AV} (m:@Sim _ (Gl n0 l) (fun _=>.pointer (some ⟨b0,0,none⟩)) S a W) (z:S.h=[.cells [.str s]]) (O:n0<=W.heap.size) (r:Ò bid c=[])
 (law:goC (liE liT) (Α (liE liT) 10) 82 [] 1 bid c S liK=some (e,.yld,.box 0 0,x,[.cells [.str s']],25,true)) :
 c.wpIn Fence.wide 0 Tryz.prog (fun C t W'=>C=e/\HY n0 l b0 s' t W'/\(∀y,x=.str y->t.tmps.getD 3 undef=.string y)/\wC b0 W W') a W:=by
 letI g:É:=Gl n0 l
 have k:=jv (QD) (gC hmixL _ _ QD) (path:=[]) rfl c bid S liK (fun _=>.pointer (some ⟨b0,0,none⟩)) a W (by rw[r]; exact fun _ h=>by cases h) law m (by rw[z]; exact bt 1);rw[Dq rfl] at k;refine wpIn_mono k fun C t W' ha=>?_;obtain⟨ν',S',f,d,g3,g4,Y⟩:=ha;rw[z] at d;have o:=Option.some.inj Y;simp only[Prod.mk.injEq] at o;obtain⟨rfl,M,L,K,J,Z,_⟩:=o;have j:ν' 0=.pointer (some ⟨b0,0,none⟩):=(d.blk 0 (by decide)).2;have A:=f.heap.blk 0;rw[J] at A;obtain⟨b,c,D,B,h2,X⟩:=A;rw[j] at B;cases B;obtain⟨u,V,U⟩:=X.one;have T:u=.string s':=U.1
 have R:c=#[.string s']:=by rw[<-bT,V,T]
 rw[R] at h2;have t0:=f.tmps 0;rw[M] at t0;have t1:=f.tmps 1;rw[L] at t1;obtain⟨_,b',_,v,E⟩:=t1;rw[j] at v;cases v;obtain⟨⟨ms,m1,H,G⟩,_⟩:=f.defers;have p:=f.tmps 3;rw[K] at p;refine⟨rfl,⟨⟨ms,m1.trans (bW _),H,G⟩,by have:=d.size; omega,by have:=f.len; omega,t0,E,⟨D,h2⟩,f.heap.glob⟩,fun y N=>by rw[N] at p; exact p,⟨d.size,fun b hb q=>(d.keep b hb ?_).1,d.os,d.tape,d.output⟩⟩;rintro⟨i,hi,Q⟩;cases Q;exact q rfl
noncomputable def pp {n0 l b0:Nat} {s s':ByteArray} {a:Act} {W:World} {c:Code} {bid:Nat} {e:Exit} {x:AV} (d:¬b0<Globs.n) (b:Ò bid c=[])
 (law:goC (liE liT) (Α (liE liT) 10) 82 [] 1 bid c (liS s .any) liK=some (e,.yld,.box 0 0,x,[.cells [.str s']],25,true)) (H:HY n0 l b0 s a W) :
 c.wpIn Fence.wide 0 Tryz.prog (fun g f W'=>g=e/\HY n0 l b0 s' f W'/\(∀y,x=.str y->f.tmps.getD 3 undef=.string y)/\wC b0 W W') a W :=
 y0 (H.sim d) rfl H.size0 b law
def BQ {n:Nat} {s:ByteArray} (h:s.size=0):iz n s=[]:=by
 cases n with
 |zero=>rfl
 |succ n=>unfold iz; rw[if_pos h]
def HY.sim24 {n0 l b0:Nat} {s:ByteArray} {a:Act} {W:World} {b:Bool} (H:HY n0 l b0 s a W) (d:¬b0<Globs.n) (hb:a.tmps.getD 24 undef=.bool b):@Sim _ (Gl n0 l) (fun _=>.pointer (some ⟨b0,0,none⟩)) {(liS s .any) with t:=upd (liS s .any).t 24 (.bool b)} a W:=by
 letI g:É:=Gl n0 l
 have c:=H.sim d;refine⟨c.defers,?_,fun i=>?_,c.heap⟩
 ·show(upd (liS s .any).t 24 (.bool b)).length<=_;rw[vk]; exact c.len
 ·show VR _ _ _ (lk (upd (liS s .any).t 24 (.bool b)) i) _;rw[I4]
  split
  ·rename_i hi;rw[hi.1]; exact hb
  ·exact c.tmps i
def MF:Ò 0 li0=[]:=by kernel_rfl
def loopsR:Ò 1 liR=[]:=by kernel_rfl
def QA:Ò 1 liM=[]:=by kernel_rfl
def QB:Ò 1 liC=[]:=by kernel_rfl
def res82:Tryz.f82.results=#[]:=by kernel_rfl
noncomputable def wC.trans {b0:Nat} {A B C:World} (h:wC b0 A B) (k:wC b0 B C):wC b0 A C :=
 ⟨bG h.size k.size,fun b hb a=>(k.same b (bH hb h.size) a).trans (h.same b hb a),k.os.trans h.os,k.tape.trans h.tape,k.output.trans h.output⟩
noncomputable def liL:Code:=.seq li0 (.block 1 (.seq liR (.seq liM (.seq liY liC))))
structure LiI (n0 l b0:Nat) (I:AS ByteArray->World->Prop) (Ix:World->Prop):Prop where
 gn:¬b0<Globs.n
 phi:∀rest W,I rest W->Globs.Φ W
 phx:∀W,Ix W->Globs.Φ W
 hI:∀rest W W' v,I rest W->W.heap.size<=W'.heap.size->(∀b,b<W.heap.size->b≠b0->W'.heap[b]?=W.heap[b]?\/(n0<=b/\∃ds:AN (AS Deferred),W.heap[b]?=some (.deferred ds)))->(∃te,W'.heap[b0]?=some (.cells #[v] te (0,0)))->W'.os=W.os->W'.tape=W.tape->W'.output=W.output->I rest W'
 hIx:∀W W' v,Ix W->W.heap.size<=W'.heap.size->(∀b,b<W.heap.size->b≠b0->W'.heap[b]?=W.heap[b]?\/(n0<=b/\∃ds:AN (AS Deferred),W.heap[b]?=some (.deferred ds)))->(∃te,W'.heap[b0]?=some (.cells #[v] te (0,0)))->W'.os=W.os->W'.tape=W.tape->W'.output=W.output->Ix W'
 hY:∀y rest W v,I (y::rest) W->(∃te,W.heap[b0]?=some (.cells #[v] te (0,0)))->YieldAt Fence.wide 0 Tryz.prog l #[.string y] W fun e W'=>W.heap.size<=W'.heap.size/\W'.heap[b0]?=W.heap[b0]?/\(∀(k:Nat) (ds:AN (AS Deferred)),W.heap[k]?=some (.deferred ds)->W'.heap[k]?=some (.deferred ds))/\((e=.returned (.bool true)/\I rest W')\/(e=.returned (.bool false)/\Ix W'))
section
variable {n0 l b0:Nat} {I:AS ByteArray->World->Prop} {Ix:World->Prop}
abbrev LiR (b0:Nat) (I:AS ByteArray->World->Prop) (Ix:World->Prop) (e:Ending) (W':World):Prop:=∃u s',e=.returned u/\(∃te,W'.heap[b0]?=some (.cells #[.string s'] te (0,0)))/\(I [] W'\/Ix W')
abbrev LiQ (b0:Nat) (I:AS ByteArray->World->Prop) (Ix:World->Prop):Exit->Act->World->Prop:=bodyPostM Fence.wide 0 Tryz.prog Tryz.f82 (LiR b0 I Ix)
noncomputable def LiI.stepI (h:LiI n0 l b0 I Ix) {rest:AS ByteArray} {s':ByteArray} {a:Act} {W W':World} (hI:I rest W) (k:wC b0 W W') (H:HY n0 l b0 s' a W'):I rest W' :=
 h.hI rest W W' _ hI k.size (fun b hb c=>.inl (k.same b hb c)) H.box k.os k.tape k.output
def LiI.stepX (h:LiI n0 l b0 I Ix) {s':ByteArray} {a:Act} {W W':World} (hI:Ix W) (k:wC b0 W W') (H:HY n0 l b0 s' a W'):Ix W' :=
 h.hIx W W' _ hI k.size (fun b hb c=>.inl (k.same b hb c)) H.box k.os k.tape k.output
def MU (h:LiI n0 l b0 I Ix) {s:ByteArray} {a:Act} {W:World} (H:HY n0 l b0 s a W) (i:I [] W\/Ix W):LeavesInM Fence.wide 0 Tryz.prog Tryz.f82 a.tmps (LiR b0 I Ix) a.defers .returning W:=by
 obtain⟨ms,m1,u,g⟩:=H.defers;obtain⟨f,hb⟩:=H.box;rw[m1];refine gX ms W u (fun k v=>(g k v).1) fun W' t r p o m=>?_
 have j:b0∉ms:=fun e=>by
  have:=(g b0 e).1;rw[hb] at this; cases this
 have d:∀b,b<W.heap.size->b≠b0->W'.heap[b]?=W.heap[b]?\/(n0<=b/\∃x:AN (AS Deferred),W.heap[b]?=some (.deferred x)):=fun b _ _=>by
  by_cases e:b∈ms
  ·exact .inr ⟨(g b e).2,_,(g b e).1⟩
  ·exact .inl (m b e)
 have c:W'.heap[b0]?=some (.cells #[.string s] f (0,0)):=(m b0 j).trans hb;refine⟨_,results_none res82 _ _ _,_,s,rfl,⟨f,c⟩,?_⟩;rcases i with q|q
 ·exact .inl (h.hI _ W W' _ q (dA t.symm) d ⟨f,c⟩ r p o)
 ·exact .inr (h.hIx W W' _ q (dA t.symm) d ⟨f,c⟩ r p o)
def KR:(⟨#[]⟩:ByteArray).size=0:=rfl
noncomputable def MS (h:LiI n0 l b0 I Ix) {n m:Nat} {s y:ByteArray} {a:Act} {W:World} (L:s.size<=n) (N:ã s.size=true) (H:HY n0 l b0 s a W) (K:a.tmps.getD 3 undef=.string y) (hI:I (y::iz n s) W)
 (J:∀(b:Act) (W':World),HY n0 l b0 s b W'->I (iz n s) W'->Code.roundsIn Fence.wide 0 Tryz.prog liL (Exit.inBlock 0 (LiQ b0 I Ix)) m b W') :
 (Code.seq liY liC).wpIn Fence.wide 0 Tryz.prog (Exit.inBlock 1 (Exit.then (Code.roundsIn Fence.wide 0 Tryz.prog liL (Exit.inBlock 0 (LiQ b0 I Ix)) m) (Exit.inBlock 0 (LiQ b0 I Ix)))) a W:=by
 apply wpIn_seq;obtain⟨z,hb⟩:=H.box;refine li_Y H.t0 K H.size (h.hY y _ W _ hI ⟨z,hb⟩) fun e W' d=>?_;obtain⟨M,u,hd,t⟩:=d
 have j:∀b:Act,b.defers=a.defers->b.tmps.size=a.tmps.size->b.tmps.getD 0 undef=a.tmps.getD 0 undef->b.tmps.getD 1 undef=a.tmps.getD 1 undef->Globs.Φ W'->HY n0 l b0 s b W':=fun b i c g f r=>by
  obtain⟨ms,m1,G,B⟩:=H.defers;exact⟨⟨ms,i.trans m1,G,fun k C=>⟨hd k _ (B k C).1,(B k C).2⟩⟩,bG H.size0 M,by rw[c]; exact H.size,g.trans H.t0,f.trans H.t1,⟨z,u.trans hb⟩,r⟩
 rcases t with⟨rfl,q⟩|⟨rfl,q⟩
 ·refine⟨true,rfl,fun b i c g f v=>?_⟩;have A:=j b i c g f (h.phi _ _ q);have:=y0 (e:=.normal) (x:=.any) (s':=s) (A.sim24 h.gn v) rfl A.size0 QB (li_C s false);refine wpIn_mono this fun c D E ⟨d,o,_,p⟩=>?_;subst d;exact J D E o (h.stepI q p o)
 ·refine⟨false,rfl,fun b i c g f v=>?_⟩;have A:=j b i c g f (h.phx _ q);have:=y0 (e:=.ret) (x:=.any) (s':=s) (A.sim24 h.gn v) rfl A.size0 QB (li_C s true);refine wpIn_mono this fun c D E ⟨d,o,_,p⟩=>?_;subst d;exact MU h o (.inr (h.stepX q p o))
def Ry {s:ByteArray} {c:UInt8} (h:0<=Lib.indexByte s.data.toList c):∃k:Nat,Lib.indexByte s.data.toList c=k/\k<s.size:=by
 obtain⟨k,a⟩:=dG h;refine⟨k,a,?_⟩;have:=(Lib.indexByte_some a).1;have h2:=(bB.1 this).1;simpa using h2
def QW {n:Int} (h0:0<=n) (a:n<=4294967297):Li n=n:=by
 show IntKind.i64.wrap n=n;rw[IntKind.wrap_i64]; omega
def MT (h:LiI n0 l b0 I Ix):∀(n:Nat) (s:ByteArray) (a:Act) (W:World),s.size<=n->ã s.size=true->HY n0 l b0 s a W->I (iz n s) W->Code.roundsIn Fence.wide 0 Tryz.prog liL (Exit.inBlock 0 (LiQ b0 I Ix)) (n+1) a W:=by
 intro n
 induction n with
 |zero =>
  intro s a W G i H hI
  have f:s.size=0:=by omega
  rw[roundsIn_succ];apply wpIn_seq;have law:=li_0 s;rw[show igt (EP s.size) 0=false by rw[kH,f]; rfl] at law;refine wpIn_mono (pp (e:=.exit 0) (x:=.any) (s':=s) h.gn MF law H) fun e j W' ⟨c,o,_,k⟩=>?_;subst c;exact MU h o (.inl (h.stepI hI k o))
 |succ n B =>
  intro s a W G i H hI;rw[roundsIn_succ];apply wpIn_seq
  by_cases f:s.size=0
  ·have law:=li_0 s;rw[show igt (EP s.size) 0=false by rw[kH,f]; rfl] at law;rw[BQ f] at hI;refine wpIn_mono (pp (e:=.exit 0) (x:=.any) (s':=s) h.gn MF law H) fun e j W' ⟨c,o,_,k⟩=>?_;subst c;exact MU h o (.inl (h.stepI hI k o))
  ·have law:=li_0 s
   have v:igt (EP s.size) 0=true:=by
    rw[kH];exact decide_eq_true (by omega)
   rw[v] at law;refine wpIn_mono (pp (e:=.normal) (x:=.any) (s':=s) h.gn MF law H) fun e O R ⟨c,M,_,z⟩=>?_;subst c;apply wpIn_block;apply wpIn_seq;refine wpIn_mono (pp (e:=.normal) (x:=.str ⟨#[]⟩) (s':=s) h.gn loopsR (li_R s) M) fun e N Q ⟨c,D,_,y⟩=>?_;subst c;apply wpIn_seq;have b:=li_M s;have C:s.size<=4294967296:=of_decide_eq_true i;unfold iz at hI;rw[if_neg f] at hI;change goC (liE liT) (Α (liE liT) 10) 82 [] 1 1 liM (liS s .any) liK=PA s (Lib.indexByte s.data.toList 10) at b
   by_cases p:0<=Lib.indexByte s.data.toList 10
   ·rw[if_pos p] at hI;obtain⟨k,K,J⟩:=Ry p;rw[K] at b hI;unfold PA at b;have E:Li ((k:Int)+1)=(k:Int)+1:=QW (by omega) (by omega);rw[E,show ige (k:Int) 0=true from decide_eq_true (by omega),show(decide (0<=(k:Int)+1)&&decide ((k:Int)+1<=s.size))=true by simp; omega] at b
    have g:(s.extract ((k:Int)+1).toNat s.size).size<=n:=by
     rw[ByteArray.size_extract]; omega
    have d:ã (s.extract ((k:Int)+1).toNat s.size).size=true:=decide_eq_true (by rw[ByteArray.size_extract]; omega);refine wpIn_mono (pp (e:=.normal) (x:=.str (s.extract 0 ((k:Int)+1).toNat)) (s':=s.extract ((k:Int)+1).toNat s.size) h.gn QA b D) fun e a3 L ⟨c,m,t,r⟩=>?_;subst c;exact MS h g d m (t _ rfl) (h.stepI hI (z.trans (y.trans r)) m) fun j W' A q=>B _ j W' g d A q
   ·rw[if_neg p] at hI;unfold PA at b;rw[show ige (Lib.indexByte s.data.toList 10) 0=false from decide_eq_false p] at b;have u:iz n ⟨#[]⟩=[]:=BQ KR;refine wpIn_mono (pp (e:=.normal) (x:=.str s) (s':=⟨#[]⟩) h.gn QA b D) fun e a3 L ⟨c,m,t,r⟩=>?_;subst c;exact MS h (n:=n) (Nat.zero_le _) rfl m (t _ rfl) (by rw[u]; exact h.stepI hI (z.trans (y.trans r)) m) fun j W' A q=>B _ j W' (Nat.zero_le _) rfl A q
end
def nt82:Tryz.f82.ntmps=25:=by kernel_rfl
def QH:Tryz.prog.funcs[82]?=some Tryz.f82:=by kernel_rfl
def Py {N:Nat} (c:N=25) {l b0:Nat} {s:ByteArray} {w:World} (hb:∃b,w.heap[b0]?=some (.cells #[.string s] b (0,0))) (a:Globs.Φ w) :
 HY w.heap.size l b0 s {tmps:=#[.func (.yield l) #[] #[],.pointer (some ⟨b0,0,none⟩)]++Array.replicate (N-(#[.func (.yield l) #[] #[],.pointer (some ⟨b0,0,none⟩)]:Array Value).size) undef,defers:=[]} w:=by
 subst c;exact⟨⟨[],rfl,du,fun _ h=>by cases h⟩,bt _,by simp,by simp[bS],by simp[bS],hb,a⟩
def Pz {P:Program} {f:Nat} {fn:Func} {c:Code} {a:Array Value} {w:World} {R:Ending->World->Prop} (b:P.funcs[f]?=some fn) (hb:fn.body=some c)
 (h:c.wpIn Fence.wide 0 P (bodyPostM Fence.wide 0 P fn R) {tmps:=a++Array.replicate (fn.ntmps-a.size) undef,defers:=[]} w):CallsIn Fence.wide 0 P f a w R :=
 callsIn_of_wp_marks b hb trivial h
def Pw:DT Tryz.prog 82 qR where
 ok:=fun s l b0 I Ix w c a b d hI hIx hY h0 hb=>by
  have h:LiI w.heap.size l b0 I Ix:=⟨d,a,b,hI,hIx,hY⟩;have A:=Py nt82 (l:=l) hb (a _ _ h0)
  have W:liB.wpIn Fence.wide 0 Tryz.prog (LiQ b0 I Ix) {tmps:=#[.func (.yield l) #[] #[],.pointer (some ⟨b0,0,none⟩)]++Array.replicate (Tryz.f82.ntmps-(#[.func (.yield l) #[] #[],.pointer (some ⟨b0,0,none⟩)]:Array Value).size) undef,defers:=[]} w:=by
   rw[liB_eq];apply wpIn_block;apply wpIn_loop_rounds (s.size+1);exact MT h s.size s _ w (bt _) c A h0
  exact⟨⟨_,_,QH,QE⟩,Pz QH QE W⟩
end Go.Proofs.ZzM
end

noncomputable section
namespace Go.Proofs.ZzM
open Go Go.Am
def hmix:Tryz.prog.follows .mixedOrders=true:=by kernel_rfl
def plain_ : (Tryz.prog.funcs.toList.all fun fn => !(fn.name == "runtime.NumGoroutine")) = true := by kernel_rfl
def plain (f : Nat) (fn : Func) (h : Tryz.prog.funcs[f]? = some fn) : (fn.name == "runtime.NumGoroutine") = false := by
 have:=bR.1 plain_ fn (bI (i:=f) (by simpa using h));simpa using this
def Rb:Tryz.laysSort_ren.f 189=107:=by kernel_rfl
def J6:Tryz.laysCompact_ren.f 20=108:=by kernel_rfl
section
variable [É] {ρ:Type}
def sortOk (f:Nat) (a:BU f=true) (h:AS Blk) (x:AV) (K:AV->AS Blk->AN ρ) (q:ρ) (e:Cs h x K=some q) (ν:Nat->Value) (w:World) (u:Value) (H:HR ν h w) (b:VR ν h w x u):uB Tryz.prog f ν h w [u] K q:=by
 have c:f=107:=by
  unfold BU at a
  split at a
  ·rfl
  ·cases a
 subst c;have:=Q6 Tryz.laysSort e H b ⟨_,rfl⟩
 rwa [Rb] at this
def NC (f:Nat) (a:lT f=true) (h:AS Blk) (x:AV) (K:AV->AS Blk->AN ρ) (q:ρ) (e:iR h x K=some q) (ν:Nat->Value) (w:World) (u:Value) (H:HR ν h w) (b:VR ν h w x u):uB Tryz.prog f ν h w [u] K q:=by
 have c:f=108:=by
  unfold lT at a
  split at a
  ·rfl
  ·cases a
 subst c;have:=KU Tryz.laysCompact e H b ⟨_,rfl⟩
 rwa [J6] at this
def RV:vS Tryz.prog vn:=by
 intro g c fz S nid x v d e ν w u H a b hd;unfold vn at c
 split at c
 ·exact pN Tryz.func109 (T:=44) (by kernel_rfl) (by kernel_rfl) e H a b hd
 ·exact pN Tryz.func199 (T:=24) (by kernel_rfl) (by kernel_rfl) e H a b hd
 ·exact pN Tryz.func200 (T:=25) (by kernel_rfl) (by kernel_rfl) e H a b hd
 ·exact pN Tryz.func201 (T:=26) (by kernel_rfl) (by kernel_rfl) e H a b hd
 ·exact pN Tryz.func202 (T:=28) (by kernel_rfl) (by kernel_rfl) e H a b hd
 ·exact pN Tryz.func203 (T:=27) (by kernel_rfl) (by kernel_rfl) e H a b hd
 ·cases c
def Hs {c:AS (Nat×Ğ)} (h:∀e∈c,Š Tryz.prog e.1 e.2) (E:Env ρ) (b:E.P=Tryz.prog) (m:E.pure=AO c) (h2:E.sort=BU) (k:E.compact=lT) (j:E.clone=vn) (i:Gn E) (g:∀f X,E.ext f=some X->H5 E.P f X) (d:ř E):xc E:=by
 constructor
 ·intro f p a;rw[m] at a;rw[b];exact h (f,p) (B7 a)
 ·intro f a;rw[h2] at a;rw[b];exact sortOk f a
 ·intro f a;rw[k] at a;rw[b];exact NC f a
 ·rw[b]; exact plain
 ·rw[b,j]; exact RV
 ·exact i
 ·exact d
 ·exact g
def libN {a:AS (Nat×Ğ)} (h:∀e∈a,Š Tryz.prog e.1 e.2) (tab:AS (ō ρ)):xc (î a tab):=Hs h _ rfl rfl rfl rfl rfl (gw rfl) (pJ rfl) (gE rfl)
end
abbrev ZP (f:Nat) (p:Ğ):Prop:=Š Tryz.prog f p
def zt {f:Nat} {p:Ğ} {a:AS (Nat×Ğ)} {tab:AS (ō (Val (tyL p.rs)))} (E:Env (Val (tyL p.rs))) (c:∀e∈a,Š Tryz.prog e.1 e.2) (d:E=î a tab) (b:∀x∈tab,x.Ok E) (law:∀x:Val (tyL p.ts),topK E f (HB p.ts x) (fun h v=>Â (Ra p.rs h v) some)=p.F x):Š Tryz.prog f p:=by
 subst d;exact CA (î a tab) (fun {_}=>libN c _) hmix (tab:=tab) rfl b (lf law)
set_option maxRecDepth 100000
def jB:ZP 49 gg:=zt (sW _) Ä rfl (Á uX Ä) fun x=>by kernel_rfl
def vG:ZP 158 lg:=zt (jn _) Ä rfl (Á mn Ä) fun x=>by kernel_rfl
def iA:ZP 115 Γ:=zt (nA _) (Á vG Ä) rfl Ä fun x=>by kernel_rfl
def JA:ZP 124 CK:=zt (vd _) (Á iA Ä) rfl (Á AC (Á AB Ä)) fun x=>by kernel_rfl
def zQ:ZP 59 sr:=zt (rA _) (Á JA Ä) rfl (Á yH (Á yI Ä)) fun x=>by kernel_rfl
def pP:ZP 65 lq:=zt (Fm _) Ä rfl Ä fun x=>by kernel_rfl
def fo:ZP 104 Ÿ:=zt (Fe _) Ä rfl Ä fun x=>by kernel_rfl
def oV:ZP 60 ln:=zt (Hl _) (Á fo Ä) rfl Ä fun x=>by kernel_rfl
def Jv:ZP 213 CG:=zt (Kq _) Ä rfl Ä fun x=>by kernel_rfl
def NP:ZP 214 G5:=zt (E6 _) Ä rfl (Á C1 Ä) fun x=>by kernel_rfl
def uq:ZP 166 sm:=zt (Hf _) (Á Jv (Á NP Ä)) rfl Ä fun x=>by kernel_rfl
def HL:ZP 128 xZ:=zt (tz _) (Á oV (Á pP (Á fo (Á uq Ä)))) rfl Ä fun x=>yJ x some
def zR:ZP 66 ob:=zt (lP _) (Á HL Ä) rfl (Á oB Ä) fun x=>by kernel_rfl
def gJ:ZP 64 Λ:=zt (wS _) Ä rfl Ä fun x=>by kernel_rfl
def HK:ZP 129 G7:=zt (C3 _) (Á oV (Á gJ Ä)) rfl Ä fun x=>by kernel_rfl
def DG:ZP 131 CL:=zt (fM _) (Á gJ (Á pP (Á fo Ä))) rfl (Á rD (Á rC Ä)) fun x=>vf x some
def ur:ZP 53 ph:=zt (vc _) (Á iA Ä) rfl (Á AA (Á Az Ä)) fun x=>by kernel_rfl
def Cg:ZP 61 uP:=zt (wl _) (Á fo Ä) rfl (Á wV Ä) fun x=>by kernel_rfl
def kE:ZP 62 fD:=zt (Η _) Ä rfl (Á lE (Á lD Ä)) fun x=>by kernel_rfl
def JB:ZP 63 CM:=zt (BI _) (Á fo Ä) rfl (Á AD Ä) fun x=>by kernel_rfl
def w9:ZP 132 wG:=zt (Ĥ _) (Á ur (Á oV (Á Cg (Á kE (Á JB (Á gJ (Á pP (Á fo Ä)))))))) rfl (Á nH (Á nE (Á nF (Á nD Ä)))) fun x=>pW x some
end Go.Proofs.ZzM
end

noncomputable section
namespace Go.Proofs
open Go.RowKit
attribute [local go_sem] Oper.semAt_some
noncomputable def upE (f:Nat->Int) (k:Nat):AS Int:=(List.range k).map f
def jK (f:Nat->Int) (k:Nat):upE f (k+1)=upE f k++[f k]:=by simp[upE,List.range_succ]
def o9 (f:Nat->Int) (k:Nat):(upE f k).length=k:=by simp[upE]
def xd (f:Nat->Int) {j k:Nat} (h:j<=k):upE f j <+: upE f k:=by
 have:k=j+(k-j):=by omega
 rw[this,upE,upE,List.range_add,fh];exact cp _ _
set_option maxRecDepth 100000 in
set_option maxHeartbeats 1000000 in
noncomputable def Pd (te:TypeId) (n:Nat) (hn:1<=n) (l n₀ bb tb sb:Nat) (flo fhi ga mv:Value) (hbb:bb<n₀) (htb:tb<n₀) (hsb:sb<n₀)
 (ub uo ul uc kb ko kl kc:Nat) (ubase kbase lbase cbase:AN Addr) (ll lc cl cc:Nat) (hub:0<ul->ubase=some ⟨ub,uo,none⟩/\ub<n₀) (hkb:0<kl->kbase=some ⟨kb,ko,none⟩/\kb<n₀)
 (U K:Nat->Int×Int) (eU eL eC eK:Nat->Int)
 (hul:ul<=1000) (hll:ll<=1000) (hcl:cl<=1000) (hkl:kl<=1000)
 (W:World) (hb0:W.heap[bb]?=some (.cells #[flo,fhi,ga,.slice ubase ul uc,.slice lbase ll lc,.slice cbase cl cc,.slice kbase kl kc] te (0,0)))
 (ht:W.cell? ⟨tb,0,none⟩=some (.func (.func 129) #[] #[.pointer (some ⟨sb,0,none⟩)])) (hs:W.cell? ⟨sb,0,none⟩=some mv)
 (hU:∀j,j<ul->W.cell? ⟨ub,uo+j*2,none⟩=some (.int .i64 (U j).1)/\W.cell? ⟨ub,uo+j*2+1,none⟩=some (.int .i64 (U j).2))
 (hK:∀j,j<kl->W.cell? ⟨kb,ko+j*2,none⟩=some (.int .i64 (K j).1)/\W.cell? ⟨kb,ko+j*2+1,none⟩=some (.int .i64 (K j).2))
 (cU:∀j,j<ul->∀W',Below n₀ W W'->CallsIn Fence.wide (n-1) Tryz.prog 129 #[.int .i64 (U j).1,.int .i64 (U j).2,.pointer (some ⟨sb,0,none⟩)] W' fun e W''=>e=.returned (.int .i64 (eU j))/\W'.grownBy W'' none)
 (cK:∀j,j<kl->∀W',Below n₀ W W'->CallsIn Fence.wide (n-1) Tryz.prog 129 #[.int .i64 (K j).1,.int .i64 (K j).2,.pointer (some ⟨sb,0,none⟩)] W' fun e W''=>e=.returned (.int .i64 (eK j))/\W'.grownBy W'' none)
 (cL:∀j,j<ll->∀W',Below n₀ W W'->CallsIn Fence.wide (n-1) Tryz.prog 131 #[.agg #[flo,fhi,ga,.slice ubase ul uc,.slice lbase ll lc,.slice cbase cl cc,.slice kbase kl kc],mv,.int .i64 j] W' fun e W''=>e=.returned (.int .i64 (eL j))/\W'.grownBy W'' none)
 (cC:∀j,j<cl->∀W',Below n₀ W W'->CallsIn Fence.wide (n-1) Tryz.prog 132 #[.agg #[flo,fhi,ga,.slice ubase ul uc,.slice lbase ll lc,.slice cbase cl cc,.slice kbase kl kc],mv,.int .i64 j] W' fun e W''=>e=.returned (.int .i64 (eC j))/\W'.grownBy W'' none)
 (J Jx:AS Int->World->Prop) (hJ:∀pre W W',J pre W->W.grownBy W' none->J pre W') (hJx:∀pre W W',Jx pre W->W.grownBy W' none->Jx pre W')
 (hY:∀pre x W,J pre W->pre.length<ul+(ll+(cl+kl))->YieldAt Fence.wide (n-1) Tryz.prog l #[.int .i64 x] W fun e W' =>
  (e=.returned (.bool true)/\J (pre++[x]) W'/\Below n₀ W W')\/(e=.returned (.bool false)/\Jx (pre++[x]) W'))
 (h0 : J [] W) (hn₀ : n₀ <= W.heap.size) :
  CallsIn Fence.wide n Tryz.prog 130 #[.func (.yield l) #[] #[],.pointer (some ⟨bb,0,none⟩),.pointer (some ⟨tb,0,none⟩),.pointer (some ⟨sb,0,none⟩)] W fun e W'=>(∃v,e=.returned v) /\
   ((∃xs,xs=upE eU ul++(upE eL ll++(upE eC cl++upE eK kl))/\J xs W')\/(∃pre,(pre <+: upE eU ul++(upE eL ll++(upE eC cl++upE eK kl)))/\Jx pre W')):=by
 have grown_alloc:∀(X:World) (o:Obj),X.grownBy (X.alloc o) none:=fun X o=>World.grownBy_alloc X o none
 have bel:∀{X Y:World},Below n₀ W X->X.grownBy Y none->Below n₀ W Y:=fun {X Y} h g =>
  ⟨g.os.trans h.os,g.tape.trans h.tape,g.output.trans h.output,bG h.size g.size,fun k hk=>(g.block k (bH (bH hk hn₀) h.size) (by simp)).trans (h.block k hk)⟩
 have hc:∀{X:World},Below n₀ W X->X.heap[bb]?=some (.cells #[flo,fhi,ga,.slice ubase ul uc,.slice lbase ll lc,.slice cbase cl cc,.slice kbase kl kc] te (0,0)):=fun h=>(h.block bb hbb).trans hb0;refine callsIn_of_wp Tryz.func130 rfl trivial ?_ rfl;simp only[Tryz.ntmps130,dh,bJ,bZ,Nat.reduceAdd,Nat.reduceSub,Array.replicate_succ,Array.replicate_zero,List.push_toArray,List.append_toArray,cV,cE]
 have hb3:W.cell? ⟨bb,3,none⟩=some (.slice ubase ul uc):=by simp[World.cell?,hb0]
 gi_wp2
 gi_loopw [14] (fun i wr=>∃k:Nat,k<=ul/\i=.int .i64 k/\J (upE eU k) wr/\Below n₀ W wr)
  (fun i _=>ul-(intOf i).toNat)
 case atStart=>exact⟨0,b6 _,rfl,h0,Below.refl _ _⟩
 case round =>
  obtain⟨k,hk,rfl,hJs,hnx⟩:=hrel
  by_cases hlt:k<ul
  ·obtain⟨rfl,hlu⟩:=hub (by omega);have hu1:=(hnx.cell (p:=⟨ub,uo+k*2,none⟩) hlu).trans (hU k hlt).1;have hu2:=(hnx.cell (p:=⟨ub,uo+k*2+1,none⟩) hlu).trans (hU k hlt).2;have ht':=(hnx.cell (p:=⟨tb,0,none⟩) htb).trans ht;have hta:∀o,(wr.alloc o).cell? ⟨tb,0,none⟩=some (.func (.func 129) #[] #[.pointer (some ⟨sb,0,none⟩)]):=fun o=>Lib.cell?_alloc_some _ ht'
   gi_wp2
   refine⟨trivial,(cU k hlt _ (bel hnx (grown_alloc _ _))).mono ?_⟩;rintro e W2 ⟨rfl,hg2⟩;obtain⟨fn,tmps,assign,body,hy,hR⟩:=hY _ (eU k) W2 (hJ _ _ _ (hJ _ _ _ hJs (grown_alloc _ _)) hg2) (by rw[o9]; omega);have hb2:=bel (bel hnx (grown_alloc _ _)) hg2
   gi_wp2
   refine hR.mono ?_;rintro e W3 (⟨rfl,hJ3,hk3⟩|⟨rfl,hJx3⟩)
   ·gi_wp2
    go_roundw
    case rel=>exact⟨k+1,by omega,by simp,by rw[jK]; exact hJ3,hb2.trans hk3⟩
    case measure=>simp[intOf]; omega
   ·gi_wp2
    refine bodyPost_ret (results_none rfl _ _ _) rfl ?_;refine⟨⟨_,rfl⟩,.inr ⟨_,?_,hJx3⟩⟩;rw[<-jK];exact(xd eU (by omega)).trans (cp _ _)
  ·obtain rfl:ul=k:=by omega
   have hb4:wr.cell? ⟨bb,4,none⟩=some (.slice lbase ll lc):=by simp[World.cell?,hc hnx]
   gi_wp2
   gi_loopw [31] (fun i wr=>∃k:Nat,k<=ll/\i=.int .i64 k/\J (upE eU ul++upE eL k) wr/\Below n₀ W wr)
    (fun i _=>ll-(intOf i).toNat)
   case atStart=>exact⟨0,b6 _,rfl,by simpa[upE] using hJs,hnx⟩
   case round =>
    clear hJs hnx;obtain⟨k,hk,rfl,hJs,hnx⟩:=hrel
    by_cases hlt:k<ll
    ·have q0:wr.cell? ⟨bb,0,none⟩=some flo:=by simp[World.cell?,hc hnx]
     have q1:wr.cell? ⟨bb,1,none⟩=some fhi:=by simp[World.cell?,hc hnx]
     have q2:wr.cell? ⟨bb,2,none⟩=some ga:=by simp[World.cell?,hc hnx]
     have q3:wr.cell? ⟨bb,3,none⟩=some (.slice ubase ul uc):=by simp[World.cell?,hc hnx]
     have q4:wr.cell? ⟨bb,4,none⟩=some (.slice lbase ll lc):=by simp[World.cell?,hc hnx]
     have q5:wr.cell? ⟨bb,5,none⟩=some (.slice cbase cl cc):=by simp[World.cell?,hc hnx]
     have q6:wr.cell? ⟨bb,6,none⟩=some (.slice kbase kl kc):=by simp[World.cell?,hc hnx]
     have hs':=(hnx.cell (p:=⟨sb,0,none⟩) hsb).trans hs
     gi_wp2
     refine⟨trivial,(cL k hlt _ hnx).mono ?_⟩;rintro e W2 ⟨rfl,hg2⟩;obtain⟨fn,tmps,assign,body,hy,hR⟩:=hY _ (eL k) W2 (hJ _ _ _ hJs hg2) (by simp only[bz,o9]; omega);have hb2:=bel hnx hg2
     gi_wp2
     refine hR.mono ?_;rintro e W3 (⟨rfl,hJ3,hk3⟩|⟨rfl,hJx3⟩)
     ·gi_wp2
      go_roundw
      case rel=>exact⟨k+1,by omega,by simp,by rw[jK,<-bM]; exact hJ3,hb2.trans hk3⟩
      case measure=>simp[intOf]; omega
     ·gi_wp2
      refine bodyPost_ret (results_none rfl _ _ _) rfl ?_;refine⟨⟨_,rfl⟩,.inr ⟨_,?_,hJx3⟩⟩;rw[bM,<-jK];exact(cP _).2 ((xd eL (by omega)).trans (cp _ _))
    ·obtain rfl:ll=k:=by omega
     have hb5:wr.cell? ⟨bb,5,none⟩=some (.slice cbase cl cc):=by simp[World.cell?,hc hnx]
     gi_wp2
     gi_loopw [45] (fun i wr=>∃k:Nat,k<=cl/\i=.int .i64 k/\J (upE eU ul++upE eL ll++upE eC k) wr/\Below n₀ W wr)
      (fun i _=>cl-(intOf i).toNat)
     case atStart=>exact⟨0,b6 _,rfl,by simpa[upE] using hJs,hnx⟩
     case round =>
      clear hJs hnx;obtain⟨k,hk,rfl,hJs,hnx⟩:=hrel
      by_cases hlt:k<cl
      ·have q0:wr.cell? ⟨bb,0,none⟩=some flo:=by simp[World.cell?,hc hnx]
       have q1:wr.cell? ⟨bb,1,none⟩=some fhi:=by simp[World.cell?,hc hnx]
       have q2:wr.cell? ⟨bb,2,none⟩=some ga:=by simp[World.cell?,hc hnx]
       have q3:wr.cell? ⟨bb,3,none⟩=some (.slice ubase ul uc):=by simp[World.cell?,hc hnx]
       have q4:wr.cell? ⟨bb,4,none⟩=some (.slice lbase ll lc):=by simp[World.cell?,hc hnx]
       have q5:wr.cell? ⟨bb,5,none⟩=some (.slice cbase cl cc):=by simp[World.cell?,hc hnx]
       have q6:wr.cell? ⟨bb,6,none⟩=some (.slice kbase kl kc):=by simp[World.cell?,hc hnx]
       have hs':=(hnx.cell (p:=⟨sb,0,none⟩) hsb).trans hs
       gi_wp2
       refine⟨trivial,(cC k hlt _ hnx).mono ?_⟩;rintro e W2 ⟨rfl,hg2⟩;obtain⟨fn,tmps,assign,body,hy,hR⟩:=hY _ (eC k) W2 (hJ _ _ _ hJs hg2) (by simp only[bz,o9]; omega);have hb2:=bel hnx hg2
       gi_wp2
       refine hR.mono ?_;rintro e W3 (⟨rfl,hJ3,hk3⟩|⟨rfl,hJx3⟩)
       ·gi_wp2
        go_roundw
        case rel=>exact⟨k+1,by omega,by simp,by rw[jK,<-bM]; exact hJ3,hb2.trans hk3⟩
        case measure=>simp[intOf]; omega
       ·gi_wp2
        refine bodyPost_ret (results_none rfl _ _ _) rfl ?_;refine⟨⟨_,rfl⟩,.inr ⟨_,?_,hJx3⟩⟩;rw[bM,<-jK]
        exact by rw[bM]; exact(cP _).2 ((cP _).2 ((xd eC (by omega)).trans (cp _ _)))
      ·obtain rfl:cl=k:=by omega
       have hb6:wr.cell? ⟨bb,6,none⟩=some (.slice kbase kl kc):=by simp[World.cell?,hc hnx]
       gi_wp2
       gi_loopw [59] (fun i wr=>∃k:Nat,k<=kl/\i=.int .i64 k/\J ((upE eU ul++upE eL ll++upE eC cl)++upE eK k) wr/\Below n₀ W wr)
        (fun i _=>kl-(intOf i).toNat)
       case atStart=>exact⟨0,b6 _,rfl,by simpa[upE] using hJs,hnx⟩
       case round =>
        clear hJs hnx;obtain⟨k,hk,rfl,hJs,hnx⟩:=hrel
        by_cases hlt:k<kl
        ·obtain⟨rfl,hlk⟩:=hkb (by omega);have hu1:=(hnx.cell (p:=⟨kb,ko+k*2,none⟩) hlk).trans (hK k hlt).1;have hu2:=(hnx.cell (p:=⟨kb,ko+k*2+1,none⟩) hlk).trans (hK k hlt).2;have ht':=(hnx.cell (p:=⟨tb,0,none⟩) htb).trans ht;have hta:∀o,(wr.alloc o).cell? ⟨tb,0,none⟩=some (.func (.func 129) #[] #[.pointer (some ⟨sb,0,none⟩)]):=fun o=>Lib.cell?_alloc_some _ ht'
         gi_wp2
         refine⟨trivial,(cK k hlt _ (bel hnx (grown_alloc _ _))).mono ?_⟩;rintro e W2 ⟨rfl,hg2⟩;obtain⟨fn,tmps,assign,body,hy,hR⟩:=hY _ (eK k) W2 (hJ _ _ _ (hJ _ _ _ hJs (grown_alloc _ _)) hg2) (by simp only[bz,o9]; omega);have hb2:=bel (bel hnx (grown_alloc _ _)) hg2
         gi_wp2
         refine hR.mono ?_;rintro e W3 (⟨rfl,hJ3,hk3⟩|⟨rfl,hJx3⟩)
         ·gi_wp2
          go_roundw
          case rel=>exact⟨k+1,by omega,by simp,by rw[jK,<-bM]; exact hJ3,hb2.trans hk3⟩
          case measure=>simp[intOf]; omega
         ·gi_wp2
          refine bodyPost_ret (results_none rfl _ _ _) rfl ?_;refine⟨⟨_,rfl⟩,.inr ⟨_,?_,hJx3⟩⟩;rw[bM,<-jK,bM,bM];exact(cP _).2 ((cP _).2 ((cP _).2 (xd eK (by omega))))
        ·obtain rfl:kl=k:=by omega
         gi_wp2
         go_end0
         exact⟨⟨_,rfl⟩,.inl ⟨_,rfl,by simpa[bM] using hJs⟩⟩
end Go.Proofs
end

noncomputable section
set_option maxRecDepth 100000
namespace Go.Proofs.ZzM
open Go Go.Am Go.RowKit
def Ir (p:String):Code:=.region 10 #[{dst:=some 5,op:=.assign (.tmp 49),type:=33,pos:=p,after:=#[],guard:=none}] false
def Qu (q r:String):Code:=.block 1 (.seq (.region 11 #[{dst:=some 50,op:=.move (.tmp 5),type:=33,pos:=q,after:=#[],guard:=none},{dst:=some 51,op:=.binOp .neq 33 (.tmp 50) (.const (.int .i64 0)) 33,type:=4,pos:=q,after:=#[{on:=0,ground:=.data}],guard:=none}] false)
 (.cond (.tmp 51) (.seq (.region 12 #[{dst:=some 52,op:=.move (.tmp 5),type:=33,pos:=r,after:=#[],guard:=none},{dst:=none,op:=.store 33 (.tmp 2) (.tmp 52),type:=0,pos:=r,after:=#[{on:=0,ground:=.data},{on:=0,ground:=.phase}],guard:=none}] false) .ret) .skip))
section
variable {P:Program} {F:Fence} {n:Nat}
def sv {b:Array Oper} {i d:Nat} {o:Oper} {u:Value} {w w':World} {a:Act} {next:Act->World->Prop} {Q:Exit->Act->World->Prop} (p:∀f,F.fn f) (j:b[i]?=some o) (m:o.guard=none) (hd:o.dst=some d) (g:∀c,o.op≠.defer c)
 (e:(execOp a.eval o).run P w=.ok (.value u) w') (k:next (a.put (some d) u) w'):wpOpIn F n P b Q i next a w:=by
 unfold wpOpIn;rw[j]
 have h:Region.wanted o (yielded b a.tmps)=true:=by simp[Region.wanted,m]
 simp only[h,if_true];refine⟨fun _ _=>p _,?_⟩;rw[Oper.semAt_eq _ _ _ g,e];rw[<-hd] at k;exact k
def Kd {b:Array Oper} {i:Nat} {o:Oper} {w w':World} {a:Act} {next:Act->World->Prop} {Q:Exit->Act->World->Prop} (m:∀f,F.fn f) (h:b[i]?=some o) (j:o.guard=none) (hd:o.dst=none) (e:∀c,o.op≠.defer c)
 (d:(execOp a.eval o).run P w=.ok .skip w') (k:next a w'):wpOpIn F n P b Q i next a w:=by
 unfold wpOpIn;rw[h]
 have g:Region.wanted o (yielded b a.tmps)=true:=by simp[Region.wanted,j]
 simp only[g,if_true];refine⟨fun _ _=>m _,?_⟩;rw[Oper.semAt_eq _ _ _ e,d];show next (a.put o.dst undef) w';rw[hd];exact k
end
def ź (T:Array Value) (i j:Nat) (v:Value):(T.setIfInBounds i v).getD j undef=if i=j/\i<T.size then v else T.getD j undef:=by
 simp only[bS,cf]
 by_cases h:i=j
 ·subst h
  by_cases h2:i<T.size
  ·simp[h2]
  ·simp[h2]
 ·simp[h]
noncomputable def mark (D:Nat):Deferred:={target:=.collected D,args:=#[]}
structure Put1 (n₀ rb:Nat) (x:Int) (w W:World):Prop where
 os:W.os=w.os
 tape:W.tape=w.tape
 output:W.output=w.output
 size:w.heap.size<=W.heap.size
 block:∀k,k<n₀->k≠rb->W.heap[k]?=w.heap[k]?
 cell:∃e,W.heap[rb]?=some (.cells #[.int .i64 x] e (0,0))
set_option maxHeartbeats 4000000 in
def Q8 {a:Act} {w:World} {Q:Exit->Act->World->Prop} {lb:Array Value} {L:AS Int} {rb:Nat} {e0:TypeId} {v0:Value} {p q r:String}
 (R:SeqStopsK Fence.wide 1 Tryz.prog 130 lb (fun x:Int=>#[.int .i64 x]) (Below w.heap.size) (fun xs=>xs=L) (fun i=>i <+: L) L.length w)
 (hg:a.tmps.getD 48 undef=.func (.func 130) #[] lb) (h2:a.tmps.getD 2 undef=.pointer (some ⟨rb,0,none⟩)) (hsz:78<=a.tmps.size)
 (V:w.heap[rb]?=some (.cells #[v0] e0 (0,0)))
 (z:∀D W,(∀x∈L,x=0)->Below w.heap.size w W->w.heap.size<=D->W.heap[D]?=some (.deferred (some []))->Q .normal {a with defers:=mark D::a.defers} W)
 (m:∀D W x,L.find? (fun e=>e != 0)=some x->Put1 w.heap.size rb x w W->w.heap.size<=D->W.heap[D]?=some (.deferred (some []))->Q .ret {a with defers:=mark D::a.defers} W) :
 (Code.rangeFunc (.tmp 48) #[49] (Ir p) (Qu q r)).wpIn Fence.wide 2 Tryz.prog Q a w:=by
 have Y:∀f,Fence.wide.fn f:=fun _=>trivial;have U:=Õ V
 refine wpIn_rangeFunc_ownF (α:=Int) (encs:=fun x=>#[.int .i64 x]) (Kp:=Below w.heap.size) (S:=fun xs=>xs=L) (Sp:=fun i=>i <+: L) (N:=L.length) (w0:=w) rfl (by omega) hg trivial (fun args w=>?eg) R
  (fun h k=>h.trans k) (fun W l o o' hl ho hc hw=>belowK_b (bt _) W l o o' hl ho hc hw) (Below.refl _ _) (fun _=>rfl)
  (fun i W=>(∀x∈i,x=0)/\Below w.heap.size w W)
  (fun c i W=>c=.ret/\∃j x,i=j++[x]/\(∀x∈j,x=0)/\x≠0/\Put1 w.heap.size rb x w W)
  ?hI ?hIx ⟨by simp,Below.refl _ _⟩ (fun x=>{tmps:=(a.tmps.setIfInBounds 49 (.int .i64 x)).setIfInBounds 5 (.int .i64 x),defers:=[]}) ?hassign ?hbody ?z ?m
 case eg=>simp[callFunc,Sem.run_bind,run_program,Result.andThen_ok,Tryz.func130,plain 130 _ Tryz.func130,show Tryz.f130.body.isNone=false from rfl]; rfl
 case hI =>
  intro s W W' row ⟨E,h2⟩ g hr;exact⟨E,g.os.trans h2.os,g.tape.trans h2.tape,g.output.trans h2.output,bG h2.size g.size,fun k A=>(g.block k (bH A h2.size) (fun e=>by have:=(hr k e.symm).1; omega)).trans (h2.block k A)⟩
 case hIx =>
  intro c s W W' row ⟨E,j,x,h3,h4,h5,C⟩ g hr;have hb:∀k,k<w.heap.size->W'.heap[k]?=W.heap[k]?:=fun k A=>g.block k (bH A C.size) (fun e=>by have:=(hr k e.symm).1; omega)
  exact⟨E,j,x,h3,h4,h5,g.os.trans C.os,g.tape.trans C.tape,g.output.trans C.output,bG C.size g.size,fun k A G=>(hb k A).trans (C.block k A G),by
   obtain⟨e,he⟩:=C.cell
   exact⟨e,(hb rb U).trans he⟩⟩
 case hassign =>
  intro l x W K hK
  have hf:((#[49]:Array Tmp).zip #[Value.int .i64 x]).foldl (fun t (p,v)=>t.setIfInBounds p v) a.tmps=a.tmps.setIfInBounds 49 (.int .i64 x):=by simp
  rw[hf];refine wpIn_region ?_;rw[show ∀o:Oper,List.range (#[o]:Array Oper).size=[0] from fun _=>rfl,wpOpsIn_cons];refine sv (d:=5) (u:=.int .i64 x) (w':=W) Y rfl rfl rfl (by simp) ?_ hK;show Result.ok (Next.value ((a.tmps.setIfInBounds 49 (.int .i64 x)).getD 49 undef)) W=_;rw[ź,if_pos ⟨rfl,by omega⟩]
 case hbody =>
  intro l i x W ⟨E,hbel⟩ hpre;refine wpIn_block (wpIn_seq (wpIn_region ?_));rw[show ∀o p:Oper,List.range (#[o,p]:Array Oper).size=[0,1] from fun _ _=>rfl,wpOpsIn_cons]
  refine sv (d:=50) (u:=.int .i64 x) (w':=W) Y rfl rfl rfl (by simp) (by
   show Result.ok (Next.value (((a.tmps.setIfInBounds 49 (.int .i64 x)).setIfInBounds 5 (.int .i64 x)).getD 5 undef)) W=_
   rw[ź,if_pos ⟨rfl,by simp; omega⟩]) ?_
  rw[wpOpsIn_cons]
  refine sv (d:=51) (u:=.bool (x != 0)) (w':=W) Y rfl rfl rfl (by simp) (by
   show((do let u <-(do eqGuard .neq 33 (.tmp 50) (.const (.int .i64 0)) ((((a.tmps.setIfInBounds 49 (.int .i64 x)).setIfInBounds 5 (.int .i64 x)).setIfInBounds 50 (.int .i64 x)).getD 50 undef) (.int .i64 0); binOp .neq 33 ((((a.tmps.setIfInBounds 49 (.int .i64 x)).setIfInBounds 5 (.int .i64 x)).setIfInBounds 50 (.int .i64 x)).getD 50 undef) (.int .i64 0)); pure (.value u)):Sem Next).run Tryz.prog W=_;rw[ź,if_pos ⟨rfl,by simp; omega⟩]
   simp[eqGuard,binOp,Op.intCmp]) ?_
  show Code.wpIn (Fence.wide.inRound l) (2-1-1) Tryz.prog (Code.cond (.tmp 51) _ .skip) _ {tmps:=((((a.tmps.setIfInBounds 49 (.int .i64 x)).setIfInBounds 5 (.int .i64 x)).setIfInBounds 50 (.int .i64 x)).setIfInBounds 51 (.bool (x != 0))),defers:=[]} W;obtain⟨T,B⟩:∃T,T=((((a.tmps.setIfInBounds 49 (.int .i64 x)).setIfInBounds 5 (.int .i64 x)).setIfInBounds 50 (.int .i64 x)).setIfInBounds 51 (.bool (x != 0))):=⟨_,rfl⟩;rw[<-B]
  have M:T.getD 51 undef=.bool (x != 0):=by rw[B,ź,if_pos ⟨rfl,by simp; omega⟩]
  have t5:T.getD 5 undef=.int .i64 x:=by rw[B,ź,if_neg (by simp),ź,if_neg (by simp),ź,if_pos ⟨rfl,by simp; omega⟩]
  have t2:T.getD 2 undef=.pointer (some ⟨rb,0,none⟩):=by rw[B,ź,if_neg (by simp),ź,if_neg (by simp),ź,if_neg (by simp),ź,if_neg (by simp),h2]
  have tsz:78<=T.size:=by rw[B]; simpa using hsz
  clear B
  by_cases Z:x=0
  ·have J:Act.eval {tmps:=T,defers:=[]} (.tmp 51)=.bool false:=M.trans (by simp[Z]);refine wpIn_cond_false J (wpIn_skip ?_);simp only[Exit.inBlock,ownPostK];exact⟨KeepsOthers.refl _,Below.refl _ _,fun y hy=>(bw.1 hy).elim (E y) (fun h=>by rw[bE] at h; rw[h,Z]),hbel⟩
  ·have J:Act.eval {tmps:=T,defers:=[]} (.tmp 51)=.bool true:=M.trans (by simp[Z]);refine wpIn_cond_true J (wpIn_seq (wpIn_region ?_));rw[show ∀o p:Oper,List.range (#[o,p]:Array Oper).size=[0,1] from fun _ _=>rfl,wpOpsIn_cons]
   have e5:(execOp (Act.eval {tmps:=T,defers:=[]}) {dst:=some 52,op:=.move (.tmp 5),type:=33,pos:=r,after:=#[],guard:=none}).run Tryz.prog W=.ok (.value (.int .i64 x)) W:=by
    show Result.ok (Next.value (T.getD 5 undef)) W=_;rw[t5]
   refine sv (d:=52) (u:=.int .i64 x) (w':=W) Y rfl rfl rfl (by simp) e5 ?_;rw[wpOpsIn_cons];have hW:W.heap[rb]?=some (.cells #[v0] e0 (0,0)):=(hbel.block rb U).trans V
   letI:É:=(Gk (fun _=>False) [] (none))
   have hst:=jM (P:=Tryz.prog) (w:=W) (t:=33) (u:=.int .i64 x) (n:=1) (b:=rb) (o:=0) (by kernel_rfl) rfl hW (by simp) (by simp[Value.cells,Value.oneCell'])
   have O:(storeVar 33 ⟨rb,0,none⟩ (.int .i64 x)).run Tryz.prog W=.ok () (W.setRow rb #[.int .i64 x]):=by simpa[Value.cells] using hst
   have t52:(T.setIfInBounds 52 (.int .i64 x)).getD 52 undef=.int .i64 x:=by rw[ź,if_pos ⟨rfl,by omega⟩]
   have t2':(T.setIfInBounds 52 (.int .i64 x)).getD 2 undef=.pointer (some ⟨rb,0,none⟩):=by rw[ź,if_neg (by simp),t2]
   have e6:(execOp (Act.eval {tmps:=T.setIfInBounds 52 (.int .i64 x),defers:=[]}) {dst:=none,op:=.store 33 (.tmp 2) (.tmp 52),type:=0,pos:=r,after:=#[{on:=0,ground:=.data},{on:=0,ground:=.phase}],guard:=none}).run Tryz.prog W=.ok .skip (W.setRow rb #[.int .i64 x]):=by
    show((do Instr.storeAt 33 ((T.setIfInBounds 52 (.int .i64 x)).getD 2 undef) ((T.setIfInBounds 52 (.int .i64 x)).getD 52 undef); pure .skip):Sem Next).run Tryz.prog W=_;rw[t52,t2'];simp[Instr.storeAt,Instr.sureAddr,O]
   refine Kd (w':=W.setRow rb #[.int .i64 x]) Y rfl rfl rfl (by simp) e6 ?_;refine wpIn_ret ?_;simp only[Exit.inBlock,ownPostK];refine⟨⟨by simp,fun k o A ho=>?_⟩,trivial,i,x,rfl,E,Z,hbel.os,hbel.tape,hbel.output,by simpa using hbel.size,fun k A G=>(setRow_other _ _ _ _ G).trans (hbel.block k A),⟨_,setRow_heap _ _ _ _ _ _ hW⟩⟩
   by_cases X:k=rb
   ·subst X; rw[hW] at A; cases A; simp[Obj.isCells] at ho
   ·rw[setRow_other _ _ _ _ X]; exact A
 case z =>
  intro D xs W hD hS ⟨E,hbel⟩ H;subst hS;exact z D W E hbel hD H
 case m =>
  intro D c i W hD hS ⟨hc,j,x,h3,h4,h5,C⟩ H;subst hc;refine wpIn_ret (m D W x ?_ C hD H);obtain⟨t,rfl⟩:=hS;rw[h3,bM,dP]
  have:List.find? (fun e=>e != 0) j=none:=ci.2 fun y hy=>by simp[h4 y hy]
  rw[this];simp[h5]
end Go.Proofs.ZzM
end

noncomputable section
set_option maxRecDepth 100000
namespace Go.Proofs.ZzM
open Go Go.Am Go.RowKit
noncomputable def fstC:Code->Code
 |.seq a _=>a
 |c=>c
noncomputable def sndC:Code->Code
 |.seq _ b=>b
 |c=>c
noncomputable def Md:Nat->Code->Code
 |0,c=>fstC c
 |n+1,c=>Md n (sndC c)
noncomputable def PP:Nat->Code->Code
 |0,c=>c
 |n+1,c=>PP n (sndC c)
noncomputable def ckB:Code:=Tryz.f23.body.getD .skip
noncomputable def ckA5:Code:=fstC (PP 5 ckB |> fstC)
noncomputable def ckRF:Code:=sndC (PP 5 ckB |> fstC)
noncomputable def Ce:Code:=sndC (PP 5 ckB)
noncomputable def ckPre:Code:=.seq (Md 0 ckB) (.seq (Md 1 ckB) (.seq (Md 2 ckB) (.seq (Md 3 ckB) (.seq (Md 4 ckB) ckA5))))
def QP:Tryz.f23.body=some (.seq (Md 0 ckB) (.seq (Md 1 ckB) (.seq (Md 2 ckB) (.seq (Md 3 ckB) (.seq (Md 4 ckB) (.seq (.seq ckA5 ckRF) Ce)))))):=by kernel_rfl
noncomputable def ck_pt:AS (Nat×Ğ):=[(59,sr),(49,gg),(65,lq),(66,ob)]
noncomputable def ckE (ρ:Type):Env ρ:=î ck_pt []
abbrev ckR:Type:=Int ⊕ (AS AV×AS Blk)
noncomputable def NI (S:St):AN Int:=match ld Tryz.prog Tryz.f23 S with
 |some v=>Ra [tI] S.h v
 |none=>none
noncomputable def ckK (e:Exit) (S:St):AN ckR:=match e with
 |.ret=>match NI S with
  |some n=>some (.inl n)
  |none=>none
 |.normal=>match decide (78<=S.t.length) with
  |true=>some (.inr ([lk S.t 1,lk S.t 2,lk S.t 48],S.h))
  |false=>none
 |_=>none
noncomputable def ckH (x:an) (s:ek) (n:Int):AS Blk :=
 [.cells (flat Ã x),.cells [.int .i64 n],.cells (flat Ã x),.cells [.mp tI Ñ s],.cells [.fn (.func 129) [] [.box 3 0]]]
noncomputable def ckM (x:an):AN ckR :=
 Â (ĺ x.1 (0:Int) (1000000:Int)) fun r1=>ifb (!r1) (some (.inl 1)) (ifb (igt (Û x.2.1) (12:Int)) (some (.inl 2)) (ifb (igt (Û x.2.2.1) (40:Int)) (some (.inl 2)) (ifb (igt (Û x.2.2.2.1) (12:Int)) (some (.inl 2)) (ifb (igt (Û x.2.2.2.2.1) (40:Int)) (some (.inl 2)) (ifb (igt (Û x.2.2.2.2.2) (10:Int)) (some (.inl 2))
  (Â (Į x) fun r2=>ifb (ine r2 (0:Int)) (some (.inl r2)) (Â (Ă x) fun a=>some (.inr ([.box 0 0,.box 1 0,.fn (.func 130) [] [.box 2 0,.box 4 0,.box 3 0]],ckH x a 0)))))))))
def ck_pre (x:an):goC (ckE ckR) (Α (ckE ckR) 10) 23 [] 0 0 ckPre {t:=HB [Ã] x++List.replicate 77 .any,h:=[]} ckK=ckM x:=by kernel_rfl
noncomputable def PY (ρ:Type):Env ρ:={ckE ρ with inl:=fun _=>false}
noncomputable def ckS (x:an):AN Int :=
 Â (jy x) fun c=>ifb (igt (Û c) (59:Int)) (some (2:Int)) (ck ((2:Int)*(Û x.2.1)) fun g=>ck ((Û c)-(Û x.2.1)) fun f=>ck ((2:Int)*f) fun e=>ck (g+e) fun d=>ck ((2:Int)*(Û x.2.2.2.2.1)) fun b=>ck (d+b) fun a=>ifb (igt a (300:Int)) (some (2:Int)) (some (0:Int)))
noncomputable def ckK2 (e:Exit) (S:St):AN Int:=match e with
 |.ret=>match lk S.t 2 with
  |.box 1 0=>match lkB S.h 1 with
   |.cells [.int .i64 n]=>some n
   |_=>none
  |_=>none
 |_=>none
def ck_suf (x:an) (s:ek):goC (PY Int) (Α (PY Int) 10) 23 [] 0 0 Ce {t:=[.any,.box 0 0,.box 1 0]++List.replicate 75 .any,h:=ckH x s 0} ckK2=ckS x:=by kernel_rfl
def PX (x:an):đ x=match ckM x with
 |none=>none
 |some (.inl n)=>some n
 |some (.inr _)=>Â (Ă x) fun s=>Et (gY x s) some (ckS x):=by
 unfold đ yY ckM ckS
 cases ĺ x.1 (0:Int) (1000000:Int) with
 |none=>rfl
 |some r1 =>
 cases r1 with
 |false=>rfl
 |true =>
 simp only[Â,ifb,cO]
 cases igt (Û x.2.1) (12:Int) with
 |true=>rfl
 |false =>
 cases igt (Û x.2.2.1) (40:Int) with
 |true=>rfl
 |false =>
 cases igt (Û x.2.2.2.1) (12:Int) with
 |true=>rfl
 |false =>
 cases igt (Û x.2.2.2.2.1) (40:Int) with
 |true=>rfl
 |false =>
 cases igt (Û x.2.2.2.2.2) (10:Int) with
 |true=>rfl
 |false =>
 cases Į x with
 |none=>rfl
 |some r2 =>
 simp only
 cases ine r2 (0:Int) with
 |true=>rfl
 |false =>
 cases Ă x with
 |none=>rfl
 |some a=>rfl
def RY {x:an} {q:AS AV×AS Blk} (h:ckM x=some (.inr q)):((x.2.2.1:AS a7).length<=1000/\(x.2.2.2.1:AS v8).length<=1000/\(x.2.2.2.2.1:AS c7).length<=1000/\(x.2.2.2.2.2:AS a7).length<=1000) /\
 ∃s,Ă x=some s/\q=([.box 0 0,.box 1 0,.fn (.func 130) [] [.box 2 0,.box 4 0,.box 3 0]],ckH x s 0):=by
 unfold ckM at h
 cases h0:ĺ x.1 (0:Int) (1000000:Int) with
 |none=>rw[h0] at h; cases h
 |some r1 =>
 rw[h0] at h
 cases r1 with
 |false=>cases h
 |true =>
 simp only[Â,ifb,cO] at h
 cases g:igt (Û x.2.1) (12:Int) with
 |true=>rw[g] at h; cases h
 |false =>
 rw[g] at h
 cases h2:igt (Û x.2.2.1) (40:Int) with
 |true=>rw[h2] at h; cases h
 |false =>
 rw[h2] at h
 cases c:igt (Û x.2.2.2.1) (12:Int) with
 |true=>rw[c] at h; cases h
 |false =>
 rw[c] at h
 cases b:igt (Û x.2.2.2.2.1) (40:Int) with
 |true=>rw[b] at h; cases h
 |false =>
 rw[b] at h
 cases a:igt (Û x.2.2.2.2.2) (10:Int) with
 |true=>rw[a] at h; cases h
 |false =>
 rw[a] at h
 cases f:Į x with
 |none=>rw[f] at h; cases h
 |some r2 =>
 rw[f] at h;simp only at h
 cases e:ine r2 (0:Int) with
 |true=>rw[e] at h; cases h
 |false =>
 rw[e] at h
 cases d:Ă x with
 |none=>rw[d] at h; cases h
 |some i =>
 rw[d] at h
 have lt:∀{α:Type} (l:AS α) (n:Nat),igt (Û l) (n:Int)=false->l.length<=n:=by
  intro α l n h;unfold Û at h;rw[kH] at h;simp only[igt,gt_iff_lt,decide_eq_false_iff_not] at h;omega
 simp only[Option.some.injEq,Sum.inr.injEq] at h;exact⟨⟨by have:=lt x.2.2.1 40 h2; omega,by have:=lt x.2.2.2.1 12 c; omega,by have:=lt x.2.2.2.2.1 40 b; omega,by have:=lt x.2.2.2.2.2 10 a; omega⟩,i,rfl,h.symm⟩
def sH {α β:Type} {f:α->AN β}:∀{l:AS α} {m:AS β},yj f l=some m->m.length=l.length/\∀(i:Nat) (a:α),l[i]?=some a->∃b,m[i]?=some b/\f a=some b
 |[],m,h=>by cases h; exact⟨rfl,fun i a ha=>by simp at ha⟩
 |a::l,m,h=>by
  unfold yj at h
  cases ha:f a with
  |none=>rw[ha] at h; cases h
  |some b =>
   rw[ha] at h
   cases d:yj f l with
   |none=>rw[d] at h; cases h
   |some j =>
    rw[d] at h;cases h;obtain⟨g,h2⟩:=sH d;refine⟨by simp[g],fun i c e=>?_⟩
    cases i with
    |zero=>simp at e; subst e; exact⟨b,by simp,ha⟩
    |succ i=>simpa using h2 i c (by simpa using e)
def xe (l:AS Int):upE (fun j=>l[j]?.getD 0) l.length=l:=by
 unfold upE;refine List.ext_getElem (by simp) fun i a h2=>?_;simp at a;simp[a]
def CR.below {a:Nat} {w W:World} {av:Nat->Prop} (hb:Below a w W) (d:w.heap.size<=a) {t:Ty} {x:Val t} {vs:AS Value} (h:CR w av t x vs):CR W av t x vs :=
 h.keep fun b c ha=>⟨hb.block b (bH c d),ha⟩
def xL {w:World} {av:Nat->Prop} {xs:AS (Int×Int)} {v:Value} (h:CR w av (.slice Æ) xs [v]):∃base cap b off,v=.slice base xs.length cap/\(0<xs.length->base=some ⟨b,off,none⟩/\b<w.heap.size) /\
 ∀j,j<xs.length->w.cell? ⟨b,off+j*2,none⟩=some (.int .i64 (xs[j]?.getD (0,0)).1)/\w.cell? ⟨b,off+j*2+1,none⟩=some (.int .i64 (xs[j]?.getD (0,0)).2):=by
 obtain⟨base,cap,e,u,a⟩:=h;cases e;rcases a with a|⟨b,off,hb,g,d,a⟩
 ·refine⟨base,cap,0,0,rfl,fun h=>?_,fun j c=>?_⟩
  ·rw[show xs=[] from a] at h; simp at h
  ·rw[show xs=[] from a] at c; simp at c
 ·refine⟨base,cap,b,off,rfl,fun _=>⟨hb,d⟩,fun j c=>?_⟩;obtain⟨us,m,h2⟩:=a j xs[j] (br c);obtain⟨u1,f,q,k,i⟩:=m;have p:u1=[.int .i64 xs[j].1]:=k;have o:f=[.int .i64 xs[j].2]:=i;subst p o q;have s:(Æ).size=2:=rfl;rw[s] at h2;have t:=h2 0 _ rfl;have r:=h2 1 _ rfl;rw[br c];exact⟨by simpa using t,by simpa[Nat.add_assoc] using r⟩
end Go.Proofs.ZzM
end

noncomputable section
set_option maxRecDepth 100000
namespace Go.Proofs.ZzM
open Go Go.Am Go.RowKit
section
variable {w W W':World}
abbrev noG:Nat->Prop:=fun _=>False
def int_arg (w:World) (n:Int):Ő w noG tI n (.int .i64 n):=⟨[.int .i64 n],rfl,rfl⟩
def Rp {a:Nat} {b:Value} {e:TypeId} {s:ek} (h:w.heap[a]?=some (.cells #[b] e (0,0))) (c:CR w noG (.map tI Ñ) s [b]):Ő w noG (.ptr (.map tI Ñ)) s (.pointer (some ⟨a,0,none⟩)):=by
 letI:É:=(Gk (fun _=>False) [] (none))
 exact⟨[.pointer (some ⟨a,0,none⟩)],⟨a,0,[b],rfl,id,Õ h,c,Ĕ.of_cells h⟩,rfl⟩
def Q9 {y:Int} {u:Value} (h:RR w noG [tI] y u):u=.int .i64 y:=by
 obtain⟨us,a,rfl⟩:=h;have:us=[.int .i64 y]:=a;rw[this]; rfl
def PJ (e:∀b,b<W.heap.size->W'.heap[b]?=W.heap[b]?) (h2:W.heap.size<=W'.heap.size) (d:W'.os=W.os) (c:W'.tape=W.tape) (a:W'.output=W.output):W.grownBy W' none :=
 ⟨d,c,a,h2,fun b hb _=>e b hb⟩
def DB {f:Nat} {p:Ğ} (b:Globs.Φ W) (g:Š Tryz.prog f p) (a:p.rs=[tI]) {x:Val (tyL p.ts)} {y:Int} (d:p.F x=some (a▸(show Val (tyL [tI]) from y))) {vals:AS Value} (ha:AL W noG p.ts x vals) :
 CallsIn Fence.wide 0 Tryz.prog f vals.toArray W fun e c=>e=.returned (.int .i64 y)/\W.grownBy c none:=by
 obtain⟨ts,rs,F⟩:=p;dsimp only at a d ha x;subst a;refine(g noG x y d W vals (fun _ h=>h.elim) b ha).2.mono fun e w' ⟨u,h0,o,h2,m,k,j,i⟩=>⟨?_,PJ h2 m k j i⟩;rw[h0,Q9 o]
noncomputable def xv {k:Nat} (h:Globs.Φ w) (hb:Below k w W) (c:w.heap.size<=k):Globs.Φ W :=
 Globs.keep w W h fun b a=>hb.block b (bH (by obtain⟨o,d,_⟩:=Globs.dat w h b a; exact Õ d) c)
def DX (d:Globs.Φ W) {s:ek} {a b y:Int} (j:Đ a b s=some y) {c:Nat} {g:Value} {e:TypeId} (h:W.heap[c]?=some (.cells #[g] e (0,0))) (i:CR W noG (.map tI Ñ) s [g]) :
 CallsIn Fence.wide 0 Tryz.prog 129 #[.int .i64 a,.int .i64 b,.pointer (some ⟨c,0,none⟩)] W fun e f=>e=.returned (.int .i64 y)/\W.grownBy f none :=
 DB d HK rfl (x:=(a,b,s)) (y:=y) j (vals:=[.int .i64 a,.int .i64 b,.pointer (some ⟨c,0,none⟩)]) ⟨_,_,rfl,int_arg _ _,_,_,rfl,int_arg _ _,_,rfl,Rp h i⟩
def Mp {a:Value} {s:ek} (b:CR W noG (.map tI Ñ) s [a]):Ő W noG (.map tI Ñ) s a:=⟨[a],b,rfl⟩
def JF {x:an} {cs:Array Value} (hb:CR W noG Ã x cs.toList):Ő W noG Ã x (.agg cs):=⟨cs.toList,hb,by show Value.agg cs=Value.agg cs.toList.toArray; rw[Array.toArray_toList]⟩
def MK (b:Globs.Φ W) {x:an} {s:ek} {i y:Int} (f:ľ x s i=some y) {a:Value} {cs:Array Value} (hb:CR W noG Ã x cs.toList) (d:CR W noG (.map tI Ñ) s [a]) :
 CallsIn Fence.wide 0 Tryz.prog 131 #[.agg cs,a,.int .i64 i] W fun e c=>e=.returned (.int .i64 y)/\W.grownBy c none :=
 DB b DG rfl (x:=(x,s,i)) (y:=y) f (vals:=[.agg cs,a,.int .i64 i]) ⟨_,_,rfl,JF hb,_,_,rfl,Mp d,_,rfl,int_arg _ _⟩
def F3 (b:Globs.Φ W) {x:an} {s:ek} {i y:Int} (f:ė x s i=some y) {a:Value} {cs:Array Value} (hb:CR W noG Ã x cs.toList) (d:CR W noG (.map tI Ñ) s [a]) :
 CallsIn Fence.wide 0 Tryz.prog 132 #[.agg cs,a,.int .i64 i] W fun e c=>e=.returned (.int .i64 y)/\W.grownBy c none :=
 DB b w9 rfl (x:=(x,s,i)) (y:=y) f (vals:=[.agg cs,a,.int .i64 i]) ⟨_,_,rfl,JF hb,_,_,rfl,Mp d,_,rfl,int_arg _ _⟩
end
def jf {w:World} {av:Nat->Prop} {t:Ty} {xs:AS (Val t)} {vs:AS Value} (h:CR w av (.slice t) xs vs):∃base cap,vs=[.slice base xs.length cap]:=by
 obtain⟨base,cap,e,_⟩:=h;exact⟨base,cap,e⟩
def O2 {w:World} (A:Globs.Φ w) {x:an} {s:ek} {E z t D:AS Int} (h1:yj (fun u=>Đ u.1 u.2 s) (x.2.2.1:AS (Int×Int))=some E) (h2:yj (fun i=>ľ x s i) (nM (x.2.2.2.1:AS v8).length)=some z)
 (h3:yj (fun i=>ė x s i) (nM (x.2.2.2.2.1:AS c7).length)=some t) (h4:yj (fun u=>Đ u.1 u.2 s) (x.2.2.2.2.2:AS (Int×Int))=some D)
 (q:(x.2.2.1:AS a7).length<=1000/\(x.2.2.2.1:AS v8).length<=1000/\(x.2.2.2.2.1:AS c7).length<=1000/\(x.2.2.2.2.2:AS a7).length<=1000)
 {bb tb R:Nat} {te te2 te3:TypeId} {cb:Array Value} {mv:Value} (hbb:w.heap[bb]?=some (.cells cb te (0,0))) (N:CR w noG Ã x cb.toList) (Z:w.heap[tb]?=some (.cells #[.func (.func 129) #[] #[.pointer (some ⟨R,0,none⟩)]] te2 (0,0)))
 (B:w.heap[R]?=some (.cells #[mv] te3 (0,0))) (C:CR w noG (.map tI Ñ) s [mv]) :
 SeqStopsK Fence.wide 1 Tryz.prog 130 #[.pointer (some ⟨bb,0,none⟩),.pointer (some ⟨tb,0,none⟩),.pointer (some ⟨R,0,none⟩)] (fun x:Int=>#[.int .i64 x]) (Below w.heap.size) (fun xs=>xs=E++(z++(t++D))) (fun m=>m <+: (E++(z++(t++D)))) (E++(z++(t++D))).length w:=by
 intro l J Jx W d hJ hJx hY h0;obtain⟨fl,r0,e0,hfl,hr0⟩:=id N;obtain⟨ga,r1,e1,hga,hr1⟩:=hr0;obtain⟨us,r2,e2,G,hr2⟩:=hr1;obtain⟨lo,r3,e3,hlo,hr3⟩:=hr2;obtain⟨co,ko,e4,hco,K⟩:=hr3;obtain⟨f1,f2,e5,hf1,hf2⟩:=hfl;have e6:f1=[.int .i64 x.1.1]:=hf1;have e7:f2=[.int .i64 x.1.2]:=hf2;obtain⟨gab,gac,e8⟩:=jf hga;obtain⟨V,U,e9⟩:=jf hlo;obtain⟨cob,coc,e10⟩:=jf hco;obtain⟨usb0,usc0,Q⟩:=jf G;obtain⟨kob0,koc0,O⟩:=jf K;rw[Q] at G;rw[O] at K;obtain⟨T,S,ub,uo,e13,H,hU⟩:=xL G;obtain⟨Y,X,kb,kof,e14,L,hK⟩:=xL K;rw[e13] at Q;rw[e14] at O
 have M:cb=#[.int .i64 x.1.1,.int .i64 x.1.2,.slice gab (x.2.1:AS zg).length gac,.slice T (x.2.2.1:AS a7).length S,.slice V (x.2.2.2.1:AS v8).length U,.slice cob (x.2.2.2.2.1:AS c7).length coc,.slice Y (x.2.2.2.2.2:AS a7).length X]:=by
  rw[<-bT,e0,e1,e2,e3,e4,e5,e6,e7,e8,e9,e10,Q,O];rfl
 obtain⟨g1,q1⟩:=sH h1;obtain⟨g2,q2⟩:=sH h2;obtain⟨g3,q3⟩:=sH h3;obtain⟨g4,q4⟩:=sH h4
 have gl2:z.length=(x.2.2.2.1:AS v8).length:=by rw[g2]; simp[nM]
 have gl3:t.length=(x.2.2.2.2.1:AS c7).length:=by rw[g3]; simp[nM]
 have up1:upE (fun j=>E[j]?.getD 0) (x.2.2.1:AS a7).length=E:=by rw[<-g1]; exact xe E
 have up2:upE (fun j=>z[j]?.getD 0) (x.2.2.2.1:AS v8).length=z:=by rw[<-gl2]; exact xe z
 have up3:upE (fun j=>t[j]?.getD 0) (x.2.2.2.2.1:AS c7).length=t:=by rw[<-gl3]; exact xe t
 have up4:upE (fun j=>D[j]?.getD 0) (x.2.2.2.2.2:AS a7).length=D:=by rw[<-g4]; exact xe D
 have at1:∀{xs:AS (Int×Int)} {ls:AS Int},(∀(i:Nat) (a:Int×Int),xs[i]?=some a->∃b,ls[i]?=some b/\Đ a.1 a.2 s=some b)->∀j,j<xs.length->Đ (xs[j]?.getD (0,0)).1 (xs[j]?.getD (0,0)).2 s=some (ls[j]?.getD 0):=by
  intro xs ls hq j k;obtain⟨b,hb,hf⟩:=hq j xs[j] (br k);rw[br k,hb];exact hf
 have at2:∀{n:Nat} {ls:AS Int} {f:Int->AN Int},(∀(i:Nat) (a:Int),(nM n)[i]?=some a->∃b,ls[i]?=some b/\f a=some b)->∀j,j<n->f (j:Int)=some (ls[j]?.getD 0):=by
  intro n ls f hq j k;obtain⟨b,hb,hf⟩:=hq j j (by simp[nM,k]);rw[hb]; exact hf
 have c:∀{W':World},Below w.heap.size W W'->Below w.heap.size w W':=fun h=>d.trans h;have g:∀{W':World} {p:Addr} {v:Value},Below w.heap.size w W'->w.cell? p=some v->p.block<w.heap.size->W'.cell? p=some v:=fun {W'} {p} {v} h hc hp=>(h.cell (p:=p) hp).trans hc;have lb:=Õ hbb;have lt:=Õ Z;have ls:=Õ B
 have:=Pd te 1 (by omega) l w.heap.size bb tb R (.int .i64 x.1.1) (.int .i64 x.1.2) (.slice gab (x.2.1:AS zg).length gac) mv lb lt ls
  ub uo (x.2.2.1:AS a7).length S kb kof (x.2.2.2.2.2:AS a7).length X T Y V cob (x.2.2.2.1:AS v8).length U (x.2.2.2.2.1:AS c7).length coc H L
  (fun j=>(x.2.2.1:AS (Int×Int))[j]?.getD (0,0)) (fun j=>(x.2.2.2.2.2:AS (Int×Int))[j]?.getD (0,0)) (fun j=>E[j]?.getD 0) (fun j=>z[j]?.getD 0) (fun j=>t[j]?.getD 0) (fun j=>D[j]?.getD 0)
  q.1 q.2.1 q.2.2.1 q.2.2.2 W ((d.block bb lb).trans (by rw[hbb,M])) (g d (by simp[World.cell?,Z]) lt) (g d (by simp[World.cell?,B]) ls)
  (fun j k=>⟨g d (hU j k).1 (H (by omega)).2,g d (hU j k).2 (H (by omega)).2⟩) (fun j k=>⟨g d (hK j k).1 (L (by omega)).2,g d (hK j k).2 (L (by omega)).2⟩)
  (fun j k W' o=>DX (xv A (c o) (bt _)) (at1 q1 j k) (((c o).block R ls).trans B) (CR.below (c o) (bt _) C))
  (fun j k W' o=>DX (xv A (c o) (bt _)) (at1 q4 j k) (((c o).block R ls).trans B) (CR.below (c o) (bt _) C))
  (fun j k W' o=>MK (xv A (c o) (bt _)) (at2 q2 j k) (by have:=CR.below (c o) (bt _) N; rwa [M] at this) (CR.below (c o) (bt _) C))
  (fun j k W' o=>F3 (xv A (c o) (bt _)) (at2 q3 j k) (by have:=CR.below (c o) (bt _) N; rwa [M] at this) (CR.below (c o) (bt _) C))
  J Jx (fun m W1 W2 k hg=>hJ m W1 W2 none k hg (fun r e=>by cases e)) (fun m W1 W2 k hg=>hJx m W1 W2 none k hg (fun r e=>by cases e))
  (fun m y W1 k hl=>hY m y W1 k (by simp only[bz]; omega)) h0 d.size
 rw[up1,up2,up3,up4] at this;exact this
end Go.Proofs.ZzM
end

noncomputable section
set_option maxRecDepth 100000
namespace Go.Proofs.ZzM
open Go Go.Am Go.RowKit
section
variable [É] {ρ:Type} {ν:Nat->Value} {w:World}
def peel (k:É.Q=none) {E:Env ρ} {call:AS Nat->Bool->Nat->AS AV->AS Blk->(AV->AS Blk->AN ρ)->AN ρ} {L:Nat} (s:ψ E L call) (t:jD E L call) (p:E.joins=fun _ _ _ _=>none) {fid:Nat} {path:AS Nat} (m:path.length+2=L) {x y c:Code} {bid n:Nat} {S:St} {K:Exit->St->AN ρ} {r:ρ} {a:Act} {Q:Exit->Act->World->Prop}
 (q:∀z∈Ò bid x,fq E path fid z.1 z.2) (e:goC E call fid path 0 bid (.seq x y) S K=some r) (H:Sim ν S a w)
 (o:∀ν' b d w',Sim ν' b d w'->Ev 0 ν S.h w ν' b.h w'->goC E call fid path 0 bid y b K=some r->c.wpIn Fence.wide n E.P Q d w')
 (i:∀ν' b d w' e,e≠.normal->Sim ν' b d w'->Ev 0 ν S.h w ν' b.h w'->K e b=some r->Q e d w'):(Code.seq x c).wpIn Fence.wide n E.P Q a w:=by
 simp only[goC,p] at e;have j:=jv s t m x bid S _ ν a w q e H (b6 _);rw[Dq k] at j;refine wpIn_seq (wpIn_wide.2 (wpIn_wide.1 (wpIn_mono j fun u d w' ha=>?_)));obtain⟨ν',b,g,h2,A,v,f⟩:=ha
 cases u with
 |normal=>exact o ν' b d w' g h2 f
 |exit id=>exact i ν' b d w' _ (by simp) g h2 f
 |goto l=>exact i ν' b d w' _ (by simp) g h2 f
 |ret=>exact i ν' b d w' _ (by simp) g h2 f
 |panic ch=>exact i ν' b d w' _ (by simp) g h2 f
 |outgrown=>exact i ν' b d w' _ (by simp) g h2 f
end
def LH {T:Array Value} {rb:Nat} {n:Int} {e:TypeId} {W:World} (h2:T.getD 2 undef=.pointer (some ⟨rb,0,none⟩)) (f:W.heap[rb]?=some (.cells #[.int .i64 n] e (0,0))):(results Tryz.f23 T).run Tryz.prog W=.ok (.int .i64 n) W:=by
 letI:É:=(Gk (fun _=>False) [] (none))
 have d:(loadVar 33 ⟨rb,0,none⟩).run Tryz.prog W=.ok (.int .i64 n) W:=by
  have:=mc (P:=Tryz.prog) (w:=W) (t:=33) (agg:=false) (n:=1) (by kernel_rfl) (us:=[.int .i64 n]) rfl (fun _=>rfl) (a:=⟨rb,0,none⟩) (fun j v b=>by
   have:=Ĕ.of_cells f j v (by simpa using b)
   cases j with
   |zero=>simpa[Addr.add] using this
   |succ j=>simp at b)
  exact this
 have c:Tryz.f23.results=#[.cell 2 33]:=by kernel_rfl
 unfold results;rw[c,Array.mapM_eq_mapM_toList];simp only[Sem.run_bind,Sem.run_map,List.mapM_cons,List.mapM_nil,h2,asAddr,Sem.run_pure,Result.andThen_ok,d];rfl
@[reducible] noncomputable def gck (G:Nat->Prop) (M:Nat):É:=(Gh G).re G [] none M
def Sc [É] {ν:Nat->Value} {h:AS Blk} {w:World} {x:an} {us:AS Value} (a:ä (VRc ν h w) (flat Ã x) us):CR w noG Ã x us:=by
 have e:Ï Ã (flat Ã x)=some x:=rfl;have h2:ä (VRs w (Av ν h)) (flat Ã x) us:=a.mono fun c u b=>b.1.data;exact CR.mono (fun _ d=>d.elim) (ü e h2)
def qX (G:Nat->Prop) (y:Int) (w:World) (e:Ending) (w':World):Prop :=
 ∃u,e=.returned u/\RR w' G [tI] y u/\(∀b,b<w.heap.size->w'.heap[b]?=w.heap[b]?)/\w.heap.size<=w'.heap.size/\w'.os=w.os/\w'.tape=w.tape/\w'.output=w.output
def Jt {G:Nat->Prop} {y:Int} {w0 w:World} {a:Act} {ms:AS Nat} {rb:Nat} {e:TypeId} (hd:a.defers=ms.map mk1) (r:ms.Nodup) (i:∀k∈ms,w.heap[k]?=some (.deferred (some []))/\w0.heap.size<=k) (h2:a.tmps.getD 2 undef=.pointer (some ⟨rb,0,none⟩)) (g:w.heap[rb]?=some (.cells #[.int .i64 y] e (0,0)))
 (hb:∀b,b<w0.heap.size->w.heap[b]?=w0.heap[b]?) (c:w0.heap.size<=w.heap.size) (x:w.os=w0.os) (v:w.tape=w0.tape) (u:w.output=w0.output):LeavesInM Fence.wide 2 Tryz.prog Tryz.f23 a.tmps (qX G y w0) a.defers .returning w:=by
 rw[hd]
 have d:rb∉ms:=fun h=>by rw[(i rb h).1] at g; cases g
 refine gX ms w r (fun k t=>(i k t).1) fun z q p o m j=>?_;exact⟨.int .i64 y,LH h2 ((j rb d).trans g),.int .i64 y,rfl,⟨[.int .i64 y],rfl,rfl⟩,fun b f=>(j b fun s=>by have:=(i b s).2; omega).trans (hb b f),by rw[q]; exact c,p.trans x,o.trans v,m.trans u⟩
def RZ (S:St):ckK .ret S=(NI S).map .inl:=by
 unfold ckK
 cases NI S<;>rfl
def KX (S:St):ckK .normal S=if decide (78<=S.t.length)=true then some (.inr ([lk S.t 1,lk S.t 2,lk S.t 48],S.h)) else none:=by
 unfold ckK
 cases decide (78<=S.t.length)<;>rfl
def fk [É] {ρ:Type} {E:Env ρ} (h0:E.loops=Ř []) (c:E.ranges=fun _ _ _ _ _ _ _=>none) {path:AS Nat} {fid bid:Nat} {b:LI}:fq E path fid bid b:=by
 cases b with
 |lp b=>exact fun m S K r ν a w e=>by rw[h0] at e; cases e
 |rf g ps x y=>exact fun m S K r ν a w e=>by rw[c] at e; cases e
def QO {ρ:Type} (E:Env ρ) (e:E.P.follows .mixedOrders=true) (a:∀[É],ř E->xc E) (h0:E.loops=Ř []) (g:E.ranges=fun _ _ _ _ _ _ _=>none) (d:E.yld=none) [É]:ψ E 2 (Α E 10) :=
 mY a (fun L call b=>gC e L call b) (fun n h b _ _ path f fn c _ _ _ z _=>fk h0 g) 10 (bt _) (gE d)
noncomputable def Re:Code->String
 | .region _ ops _ => ((ops[0]?).map fun o => o.pos).getD ""
 | _ => ""
noncomputable def rfA:Code->Code
 |.block _ (.rangeFunc _ _ a _)=>a
 |_=>.skip
noncomputable def rfB:Code->Code
 |.block _ (.rangeFunc _ _ _ (.block _ (.seq a _)))=>a
 |_=>.skip
noncomputable def rfC:Code->Code
 |.block _ (.rangeFunc _ _ _ (.block _ (.seq _ (.cond _ (.seq a _) _))))=>a
 |_=>.skip
def RX:ckRF=Code.block 0 (Code.rangeFunc (.tmp 48) #[49] (Ir (Re (rfA ckRF))) (Qu (Re (rfB ckRF)) (Re (rfC ckRF)))):=by kernel_rfl
def QN:∀e∈ck_pt,Š Tryz.prog e.1 e.2:=Á zQ (Á jB (Á pP (Á zR Ä)))
def NJ {e:Exit} {S:St} {n:Int} (h:ckK2 e S=some n):e=.ret/\lk S.t 2=.box 1 0/\lkB S.h 1=.cells [.int .i64 n]:=by
 unfold ckK2 at h
 split at h
 ·split at h
  ·rename_i h2
   split at h
   ·rename_i a;cases h;exact⟨rfl,h2,a⟩
   ·cases h
  ·cases h
 ·cases h
def FE [É] {ν:Nat->Value} {h:AS Blk} {w:World} {n:Int} {id:Nat} (H:HR ν h w) (d:lkB h id=.cells [.int .i64 n]):∃b e,ν id=.pointer (some ⟨b,0,none⟩)/\w.heap[b]?=some (.cells #[.int .i64 n] e (0,0)):=by
 have a:=H.blk id;rw[d] at a;obtain⟨b,c,e,k,h2,j⟩:=a;obtain⟨u,i,g⟩:=j.one;have f:u=.int .i64 n:=g.1;refine⟨b,e,k,?_⟩;rw[h2]
 have:c=#[.int .i64 n]:=by rw[<-bT,i,f]
 rw[this]
def vK [É] {ν:Nat->Value} {h:AS Blk} {w:World} {id off:Nat} {v:Value} {b:Nat} (a:VR ν h w (.box id off) v) (hb:ν id=.pointer (some ⟨b,0,none⟩)):v=.pointer (some ⟨b,off,none⟩):=by
 obtain⟨cs,e,d,h2,c⟩:=a;rw[hb] at h2;cases h2;exact c
def RW {G:Nat->Prop} {x:an} {s:ek} {y:Int} (V:ckS x=some y) {ν:Nat->Value} {w0 c W:World} {a:Act} (H:@HR _ (gck G w0.heap.size) ν (ckH x s 0) c) (hb:Below c.heap.size c W) {ms:AS Nat} (hd:a.defers=ms.map mk1) (U:ms.Nodup) (D:∀k∈ms,W.heap[k]?=some (.deferred (some []))/\w0.heap.size<=k) (q:78<=a.tmps.size)
 (t1:@VR _ (gck G w0.heap.size) ν (ckH x s 0) c (.box 0 0) (a.tmps.getD 1 undef)) (t2:@VR _ (gck G w0.heap.size) ν (ckH x s 0) c (.box 1 0) (a.tmps.getD 2 undef))
 (h0:∀b,b<w0.heap.size->c.heap[b]?=w0.heap[b]?/\¬jG ν (ckH x s 0) b) (C:w0.heap.size<=c.heap.size) (r:c.os=w0.os) (Y:c.tape=w0.tape) (X:c.output=w0.output) :
 Ce.wpIn Fence.wide 2 Tryz.prog (bodyPostM Fence.wide 2 Tryz.prog Tryz.f23 (qX G y w0)) a W:=by
 have E:∀b,jG ν (ckH x s 0) b->b<c.heap.size:=fun b K=>@HR.ltA _ (gck G w0.heap.size) _ _ _ H b (.inl K)
 have A:∃b,ν 0=.pointer (some ⟨b,0,none⟩)/\a.tmps.getD 1 undef=.pointer (some ⟨b,0,none⟩):=by
  obtain⟨cs,b,_,h2,r⟩:=t1;exact⟨b,h2,r⟩
 have v:∃b,ν 1=.pointer (some ⟨b,0,none⟩)/\a.tmps.getD 2 undef=.pointer (some ⟨b,0,none⟩):=by
  obtain⟨cs,b,_,h2,r⟩:=t2;exact⟨b,h2,r⟩
 letI:É:=gck G w0.heap.size
 have H1:HR ν (ckH x s 0) c:=H;have H2:HR ν (ckH x s 0) W:=(H1.grow (fun b g=>hb.block b g) hb.size hb.os hb.tape hb.output 0).2;have j:∀L call,ψ (PY Int) L call->jD (PY Int) L call:=gC hmix;have J:(PY Int).loops=Ř []:=rfl;have f:ψ (PY Int) 2 (Α (PY Int) 10):=QO (PY Int) hmix (fun {_} _=>Hs QN (PY Int) rfl rfl rfl rfl rfl (gw rfl) (pJ rfl) (gE rfl)) rfl rfl rfl;have law:=ck_suf x s;rw[V] at law
 have B:Sim ν {t:=[.any,.box 0 0,.box 1 0]++List.replicate 75 .any,h:=ckH x s 0} a W:=by
  refine⟨⟨⟨ms,hd.trans (bW _).symm,U,D⟩,fun l K=>(by cases K),b6 _,bG C hb.size⟩,by simpa using q,fun i=>?_,H2⟩;simp only[BP];rcases i with _|_|_|i
  ·trivial
  ·obtain⟨b,m,d⟩:=A;exact⟨_,b,rfl,m,d⟩
  ·obtain⟨b,m,d⟩:=v;exact⟨_,b,rfl,m,d⟩
  ·trivial
 refine wpIn_wide.2 (wpIn_wide.1 (wpIn_mono (jv f (j _ _ f) rfl Ce 0 _ _ ν a W (fun z _=>fk J rfl) law B (b6 _)) fun e a' w' ha=>?_));obtain⟨ν',S',m,d,_,_,Z⟩:=ha;obtain⟨rfl,T,S⟩:=NJ Z;obtain⟨rb,te,r1,r2⟩:=FE m.heap S;have M:=m.tmps 2;rw[T] at M;have N:=vK M r1;obtain⟨⟨O,m1,R,Q⟩,_⟩:=m.defers;refine Jt (w:=w') (a:=a') (G:=G) (y:=y) (w0:=w0) (rb:=rb) (m1.trans (bW _)) R Q N r2 (fun b g=>?_) (by have:=d.size; have:=hb.size; omega) (d.os.trans (hb.os.trans r)) (d.tape.trans (hb.tape.trans Y)) (d.output.trans (hb.output.trans X));have u:=h0 b g
 have p:b<c.heap.size:=by omega
 have o:b<W.heap.size:=by have:=hb.size; omega
 exact(d.keep b o u.2).1.trans ((hb.block b p).trans u.1)
set_option maxHeartbeats 2000000 in
def KY (G:Nat->Prop) (x:an) (y:Int) (r:đ x=some y) (w:World) (vals:AS Value) (hG:∀b,G b->b<w.heap.size) (hΦ:Globs.Φ w) (hAL:AL w G [Ã] x vals) :
 (∃fn c,Tryz.prog.funcs[23]?=some fn/\fn.body=some c)/\CallsIn Fence.wide 0 Tryz.prog 23 vals.toArray w (qX G y w):=by
 rw[PX] at r
 letI:É:=gck G w.heap.size
 have hpt:=QN;have hdraw:∀L call,ψ (ckE ckR) L call->jD (ckE ckR) L call:=gC hmix;have h0:(ckE ckR).loops=Ř []:=rfl;have m:ψ (ckE ckR) 2 (Α (ckE ckR) 10):=QO (ckE ckR) hmix (fun {_} _=>Hs hpt (ckE ckR) rfl rfl rfl rfl rfl (gw rfl) (pJ rfl) (gE rfl)) rfl rfl rfl;have hD:=hdraw _ _ m;have H:HR (fun _=>undef) [] w:=⟨fun _=>trivial,fun _ _ _ h=>(by cases h),hG,fun _ _ h=>(by cases h),hΦ,fun _ _ ⟨_,h,_⟩=>(by cases h)⟩;have hav:∀b,Av (fun _=>undef) [] b->G b:=fun b hb=>hb.elim (fun⟨_,h,_⟩=>by cases h) id;have C:ä (VR (fun _=>undef) [] w) (HB [Ã] x) vals:=AL.VR (hAL.mono hav);refine⟨⟨Tryz.f23,_,Tryz.func23,QP⟩,?_⟩
 have hlen:vals.length=1:=by
  have:=C.length;simpa[HB,Np] using this.symm
 cases hM:ckM x with
 |none=>rw[hM] at r; cases r
 |some r0 =>
 rw[hM] at r;have law:=ck_pre x;rw[hM] at law;refine callsIn_wide.2 (callsIn_wide.1 (callsIn_of_wp_marks (n:=2) Tryz.func23 QP trivial ?_ (R:=qX G y w)))
 have hS:Sim (fun _=>undef) {t:=HB [Ã] x++List.replicate 77 .any,h:=[]} {tmps:=vals.toArray++Array.replicate (Tryz.f23.ntmps-vals.toArray.size) undef,defers:=[]} w:=by
  refine⟨⟨⟨[],rfl,du,fun _ h=>(by cases h)⟩,fun l hl=>(by cases hl),b6 _,bt _⟩,?_,fun i=>?_,H⟩
  ·have:Tryz.f23.ntmps=78:=by kernel_rfl
   have hl2:(HB [Ã] x).length=1:=rfl;simp[this,hlen,hl2]
  ·simp only[BP];rcases cd i (HB [Ã] x).length with hi|hi
   ·have:=ä.lk (R:=VR (fun _=>undef) [] w) (fun _=>trivial) i C
    have hv:i<vals.length:=by rw[<-C.length]; exact hi
    have h2:(vals.toArray++Array.replicate (Tryz.f23.ntmps-vals.toArray.size) undef).getD i undef=vals.getD i undef:=by
     simp[bS,cY,hv]
    rw[h2]; exact this
   ·rw[Pv _ _ hi]; trivial
 -- the ways out ahead of the loop
 have out:∀ν' U a' w' e,e≠.normal->Sim ν' U a' w'->Ev 0 (fun _=>undef) [] w ν' U.h w'->ckK e U=some r0->bodyPostM Fence.wide 2 Tryz.prog Tryz.f23 (qX G y w) e a' w':=by
  intro ν' U a' w' e O q E d
  cases e with
  |normal=>exact(O rfl).elim
  |ret =>
   rw[RZ] at d
   cases hr:NI U with
   |none=>rw[hr] at d; cases d
   |some n =>
    rw[hr,b9] at d;cases d
    have hyn:n=y:=by simpa using r
    subst hyn;unfold NI at hr
    split at hr
    ·rename_i v hv;show LeavesInM _ _ _ _ _ _ a'.defers _ _;obtain⟨⟨ms,m1,m2,m3⟩,_,m4,m5⟩:=q.defers;rw[show a'.defers=ms.map mk1 from m1.trans (bW _)];refine gX ms w' m2 (fun k d=>(m3 k d).1) fun w2 q1 q2 q3 q4 q5=>?_
     have hk2:∀(b:Nat) (o:Obj),w'.heap[b]?=some o->wH o=true\/b<(gck G w.heap.size).B->w2.heap[b]?=some o:=fun b o hb hd=>by
      have hbm:b∉ms:=fun hm=>by
       rw[(m3 b hm).1] at hb; cases hb;rcases hd with hd|hd
       ·cases hd
       ·exact absurd hd (Nat.not_lt_zero _)
      rw[q5 b hbm]; exact hb
     have KG:Ū (gck G w.heap.size) ν' U.h w' (gck G w.heap.size).G w2:=Ū.nds q2 q3 q4 (by omega) hk2
     have sim2:Sim ν' U {a' with defers:=[]} w2:=⟨⟨⟨[],rfl,du,fun _ h=>(by cases h)⟩,fun l hl=>(by cases hl),b6 _,by rw[q1]; exact m5⟩,q.len,fun i=>VR.step (g:=gck G w.heap.size) (D:=[]) (Q:=none) (M:=w.heap.size) KG (q.tmps i),
      HR.step (g:=gck G w.heap.size) (D:=[]) (Q:=none) (M:=w.heap.size) KG (fun b hb=>by rw[q1]; exact q.heap.ghlt b hb) (fun b hb hg=>by obtain⟨id,h1,h2⟩:=hb; exact q.heap.ghne id b h1 h2 hg) q.heap⟩
     obtain⟨u,r1,r2⟩:=Bg sim2 hv;exact⟨u,r1,u,rfl,Iu sim2.heap [tI] r2 hr,fun b hb=>(q5 b fun hm=>by have m7:w.heap.size<=b:=(m3 b hm).2; omega).trans (E.keep b hb fun⟨_,h,_⟩=>by cases h).1,by rw[q1]; exact E.size,q2.trans E.os,q3.trans E.tape,q4.trans E.output⟩
    ·cases hr
  |exit id=>cases d
  |goto l=>cases d
  |panic ch=>cases d
  |outgrown=>cases d
 have J:∀{Y:Nat->Value} {h₁:AS Blk} {w₁:World},Ev 0 (fun _=>undef) [] w Y h₁ w₁->∀ν' U a' w' e,e≠.normal->Sim ν' U a' w'->Ev 0 Y h₁ w₁ ν' U.h w'->ckK e U=some r0->bodyPostM Fence.wide 2 Tryz.prog Tryz.f23 (qX G y w) e a' w' :=
  fun hE ν' U a' w' e O q E d=>out ν' U a' w' e O q (hE.trans E (bt _)) d
 refine peel rfl m hD rfl rfl (fun z _=>fk h0 rfl) law hS (fun ν1 S1 a1 w1 s1 e1 k1=>?_) out;refine peel rfl m hD rfl rfl (fun z _=>fk h0 rfl) k1 s1 (fun ν2 S2 a2 w2 s2 e2 k2=>?_) (J e1);have t2:=e1.trans e2 (bt _);refine peel rfl m hD rfl rfl (fun z _=>fk h0 rfl) k2 s2 (fun ν3 S3 a3 w3 s3 e3 k3=>?_) (J t2);have t3:=t2.trans e3 (bt _);refine peel rfl m hD rfl rfl (fun z _=>fk h0 rfl) k3 s3 (fun ν4 S4 a4 w4 s4 e4 k4=>?_) (J t3);have t4:=t3.trans e4 (bt _);refine peel rfl m hD rfl rfl (fun z _=>fk h0 rfl) k4 s4 (fun ν5 S5 a5 w5 s5 e5 k5=>?_) (J t4);have t5:=t4.trans e5 (bt _);refine wpIn_seq (wpIn_seq (wpIn_wide.2 (wpIn_wide.1 (wpIn_mono (jv m hD rfl ckA5 0 S5 _ ν5 a5 w5 (fun z _=>fk h0 rfl) k5 s5 (b6 _)) fun e' a6 K ha=>?_))));obtain⟨ν,S,V,e6,_,_,k6⟩:=ha;have N:=t5.trans e6 (bt _)
 have f:∀e,e≠.normal->ckK e S=some r0->Exit.then (Code.wpIn Fence.wide 2 Tryz.prog Ce (bodyPostM Fence.wide 2 Tryz.prog Tryz.f23 (qX G y w))) (bodyPostM Fence.wide 2 Tryz.prog Tryz.f23 (qX G y w)) e a6 K:=by
  intro e O d;have:=out ν S a6 K e O V N d
  cases e<;>first|exact(O rfl).elim|exact this
 cases e' with
 |exit id=>exact f _ (by simp) k6
 |goto l=>exact f _ (by simp) k6
 |ret=>exact f _ (by simp) k6
 |panic ch=>exact f _ (by simp) k6
 |outgrown=>exact f _ (by simp) k6
 |normal =>
 clear f;rw[KX] at k6
 split at k6<;>try (cases k6; done)
 rename_i h78
 have h78':78<=S.t.length:=by simpa using h78
 cases k6;obtain⟨hlens,s,hs,hq⟩:=RY hM;simp only[Prod.mk.injEq,List.cons.injEq,and_true] at hq;obtain⟨⟨q1,q2,q48⟩,qh⟩:=hq
 have Z:Et (gY x s) some (ckS x)=some y:=by
  simp only at r;rw[hs] at r;exact r
 -- what the errors are
 obtain⟨L,X,hLy⟩:∃L,gY x s=some L/\(match L.find? (fun e=>e != 0) with|some e=>some e|none=>ckS x)=some y:=by
  unfold Et at Z
  cases hl:gY x s with
  |none=>rw[hl] at Z; cases Z
  |some L=>rw[hl] at Z; exact⟨L,rfl,Z⟩
 obtain⟨l1,l2,l3,l4,m1,m2,m3,m4,rfl⟩:∃l1 l2 l3 l4,yj (fun u=>Đ u.1 u.2 s) (x.2.2.1:AS (Int×Int))=some l1/\yj (fun i=>ľ x s i) (nM (x.2.2.2.1:AS v8).length)=some l2 /\
  yj (fun i=>ė x s i) (nM (x.2.2.2.2.1:AS c7).length)=some l3/\yj (fun u=>Đ u.1 u.2 s) (x.2.2.2.2.2:AS (Int×Int))=some l4/\L=l1++(l2++(l3++l4)):=by
  unfold gY at X
  cases m1:yj (fun u=>Đ u.1 u.2 s) (x.2.2.1:AS (Int×Int)) with
  |none=>rw[m1] at X; cases X
  |some l1 =>
  rw[m1] at X
  cases m2:yj (fun i=>ľ x s i) (nM (x.2.2.2.1:AS v8).length) with
  |none=>simp only[Â,m2] at X; cases X
  |some l2 =>
  cases m3:yj (fun i=>ė x s i) (nM (x.2.2.2.2.1:AS c7).length) with
  |none=>simp only[Â,m2,m3] at X; cases X
  |some l3 =>
  cases m4:yj (fun u=>Đ u.1 u.2 s) (x.2.2.2.2.2:AS (Int×Int)) with
  |none=>simp only[Â,m2,m3,m4] at X; cases X
  |some l4 =>
  simp only[Â,m2,m3,m4] at X;cases X;exact⟨l1,l2,l3,l4,rfl,rfl,rfl,rfl,rfl⟩
 -- the blocks
 obtain⟨T,Hh⟩:=S;dsimp only at q1 q2 q48 qh h78';subst qh;have p1:=V.tmps 1;have p2:=V.tmps 2;have p48:=V.tmps 48;dsimp only at p1 p2 p48;rw[q1] at p1;rw[q2] at p2;rw[q48] at p48;obtain⟨rb,te1,n1,hrb⟩:=FE (id:=1) (n:=0) V.heap rfl;have hB2:BR ν (ckH x s 0) K 2 (.cells (flat Ã x)):=V.heap.blk 2;have hB3:BR ν (ckH x s 0) K 3 (.cells [.mp tI Ñ s]):=V.heap.blk 3;have hB4:BR ν (ckH x s 0) K 4 (.cells [.fn (.func 129) [] [.box 3 0]]):=V.heap.blk 4;obtain⟨bb,cb,te,n2,hbb,hb2⟩:=hB2;obtain⟨sb,cs3,te3,n3,hsb,hb3⟩:=hB3;obtain⟨tb,cs4,te2,n4,htb,hb4⟩:=hB4;obtain⟨mv,z3,hm3⟩:=hb3.one;obtain⟨fv,z4,hm4⟩:=hb4.one;have hmv:CR K noG (.map tI Ñ) s [mv]:=CR.mono (fun _ hf=>hf.elim) (show CR K (Av ν (ckH x s 0)) (.map tI Ñ) s [mv] from hm3.1)
 have hc3:cs3=#[mv]:=by rw[<-bT,z3]
 have hfv:fv=.func (.func 129) #[] #[.pointer (some ⟨sb,0,none⟩)]:=by
  obtain⟨fs,cs,h1,h2,h3⟩:=hm4.1
  have e1:fs=#[]:=by rw[<-bT]; exact h2.nil_left
  obtain⟨u,e2,h4⟩:=h3.one;have e3:u=.pointer (some ⟨sb,0,none⟩):=vK (w:=K) (id:=3) (off:=0) h4 n3
  have e4:cs=#[.pointer (some ⟨sb,0,none⟩)]:=by rw[<-bT,e2,e3]
  rw[h1,e1,e4]
 have hc4:cs4=#[fv]:=by rw[<-bT,z4]
 rw[hc3] at hsb;rw[hc4,hfv] at htb
 have hg:a6.tmps.getD 48 undef=.func (.func 130) #[] #[.pointer (some ⟨bb,0,none⟩),.pointer (some ⟨tb,0,none⟩),.pointer (some ⟨sb,0,none⟩)]:=by
  obtain⟨fs,cs,h1,h2,h3⟩:=p48
  have e1:fs=#[]:=by rw[<-bT]; exact h2.nil_left
  have hl:=h3.length
  obtain⟨u1,u2,u3,e2⟩:∃u1 u2 u3,cs.toList=[u1,u2,u3]:=by
   rcases hcs:cs.toList with _|⟨u1,_|⟨u2,_|⟨u3,_|⟨u4,t⟩⟩⟩⟩<;>rw[hcs] at hl<;>simp at hl
   exact⟨u1,u2,u3,rfl⟩
  rw[e2] at h3;have e3:u1=.pointer (some ⟨bb,0,none⟩):=vK (w:=K) (id:=2) (off:=0) h3.1 n2;have e4:u2=.pointer (some ⟨tb,0,none⟩):=vK (w:=K) (id:=4) (off:=0) h3.2.1 n4;have e5:u3=.pointer (some ⟨sb,0,none⟩):=vK (w:=K) (id:=3) (off:=0) h3.2.2.1 n3;rw[h1,e1];congr 1;rw[<-bT,e2,e3,e4,e5]
 have hseq:=O2 V.heap.glob m1 m2 m3 m4 hlens hbb (Sc hb2) htb hsb hmv;have h2:=vK p2 n1;have hsz:78<=a6.tmps.size:=bG h78' V.len
 have A:∀b,b<w.heap.size->K.heap[b]?=w.heap[b]?/\¬jG ν (ckH x s 0) b:=fun b hb=>N.keep b hb fun⟨_,h,_⟩=>by cases h
 obtain⟨⟨ms,m1',m2',p⟩,_⟩:=V.defers;have hdef:a6.defers=ms.map mk1:=m1'.trans (bW _);show ckRF.wpIn Fence.wide 2 Tryz.prog (Exit.then (Ce.wpIn Fence.wide 2 Tryz.prog (bodyPostM Fence.wide 2 Tryz.prog Tryz.f23 (qX G y w))) (bodyPostM Fence.wide 2 Tryz.prog Tryz.f23 (qX G y w))) a6 K;rw[RX];refine wpIn_block (Q8 hseq hg h2 hsz hrb (fun D W hall hbel hDl hDo=>?_) (fun D W z hz j hDl hDo=>?_))
 ·have hck:ckS x=some y:=by
   have:(l1++(l2++(l3++l4))).find? (fun e=>e != 0)=none:=ci.2 fun z hz=>by rw[hall z hz]; simp
   rw[this] at hLy;exact hLy
  have hDn:D∉ms:=fun hm=>by have:=Õ (p D hm).1; omega
  exact RW (s:=s) (ms:=D::ms) hck V.heap hbel (by show mark D::a6.defers=_; rw[hdef]; rfl) (dw.2 ⟨hDn,m2'⟩) (fun k d=>by
   rcases bC.1 d with rfl|d
   ·exact⟨hDo,bG N.size hDl⟩
   ·exact⟨(hbel.block k (Õ (p k d).1)).trans (p k d).1,(p k d).2⟩) hsz p1 p2 A N.size N.os N.tape N.output
 ·have hzy:z=y:=by
   rw[hz] at hLy;simpa using hLy
  subst hzy;obtain⟨te5,hcell⟩:=j.cell;have hlb:=Õ hrb;have hlive:jG ν (ckH x s 0) rb:=⟨1,rfl,by rw[n1]; rfl⟩
  have hDn:D∉ms:=fun hm=>by have:=Õ (p D hm).1; omega
  exact Jt (a:={a6 with defers:=mark D::a6.defers}) (w:=W) (ms:=D::ms) (by show mark D::a6.defers=_; rw[hdef]; rfl) (dw.2 ⟨hDn,m2'⟩) (fun k d=>by
   rcases bC.1 d with rfl|d
   ·exact⟨hDo,bG N.size hDl⟩
   ·exact⟨(j.block k (Õ (p k d).1) (fun e=>by have h9:=(p k d).1; rw[e,hrb] at h9; cases h9)).trans (p k d).1,(p k d).2⟩) h2 hcell
   (fun b hb=>(j.block b (by have:=N.size; omega) (fun e=>(A b hb).2 (e▸hlive))).trans (A b hb).1) (by have:=N.size; have:=j.size; omega) (j.os.trans N.os) (j.tape.trans N.tape) (j.output.trans N.output)
def hO:Š Tryz.prog 23 fE:=fun G x y d w vals c a b=>KY G x y d w vals c a b
end Go.Proofs.ZzM
end

noncomputable section
set_option maxRecDepth 100000
namespace Go.Proofs.ZzM
open Go Go.Am
def K3:ZP 5 Bo:=zt (we _) Ä rfl (Á wJ Ä) fun x=>by kernel_rfl
def Jz:ZP 50 CJ:=zt (uZ _) (Á fo Ä) rfl (Á Ax (Á Aw Ä)) fun x=>by kernel_rfl
def jA:ZP 112 Ŭ:=zt (Ş _) Ä rfl (Á fI Ä) fun x=>by kernel_rfl
def wz:ZP 52 oa:=zt (Aq _) (Á jA Ä) rfl Ä fun x=>by kernel_rfl
def w8:ZP 121 ni:=zt (sX _) Ä rfl Ä fun x=>by kernel_rfl
def oU:ZP 162 lh:=zt (yx _) (Á uq Ä) rfl (Á yw Ä) fun x=>by kernel_rfl
def zO:ZP 208 rj:=zt (C0 _) (Á Jv (Á NP Ä)) rfl Ä fun x=>by kernel_rfl
def R0:ZP 164 LV:=zt (Mv _) (Á oU (Á zO Ä)) rfl Ä fun x=>by kernel_rfl
def DE:ZP 122 sq:=zt (yC _) (Á R0 Ä) rfl Ä fun x=>by kernel_rfl
def HJ:ZP 240 G6:=zt (Ms _) Ä rfl Ä fun x=>by kernel_rfl
def qW:ZP 209 qp:=zt (wQ _) (Á oU (Á HJ Ä)) rfl Ä fun x=>by kernel_rfl
def NR:ZP 212 LW:=zt (Mx _) (Á oU (Á zO Ä)) rfl Ä fun x=>by kernel_rfl
def NQ:Š Tryz.prog 165 EF:=LR (ry _) (E9 _) (fun {_}=>Hs (Á uq (Á qW (Á NR (Á HJ Ä)))) (ry _) rfl rfl rfl rfl rfl (gw rfl) (pJ rfl) (gE rfl)) (fun {_}=>libN (Á uq (Á qW (Á NR (Á HJ Ä)))) _) rfl hmix (tab:=mz _) rfl Ä (us:=wi) rfl (Á (by kernel_rfl) Ä) (lf fun x=>C2 x some)
def DD:ZP 123 sn:=zt (yB _) (Á NQ Ä) rfl Ä fun x=>by kernel_rfl
def vI:ZP 57 pj:=zt (Fo _) (Á jB (Á ur (Á w8 (Á DE (Á DD Ä))))) rfl Ä fun x=>by kernel_rfl
def Gd:ZP 118 ya:=zt (Hm _) Ä rfl Ä fun x=>by kernel_rfl
def Ga:ZP 163 xW:=zt (He _) Ä rfl Ä fun x=>by kernel_rfl
def Jw:ZP 119 CH:=zt (Kr _) (Á oU (Á Ga Ä)) rfl Ä fun x=>by kernel_rfl
def Gb:ZP 120 xX:=zt (Hg _) (Á oU (Á Ga Ä)) rfl Ä fun x=>by kernel_rfl
def Jy:ZP 58 CI:=zt (Ks _) (Á vI (Á Gd (Á Jw (Á Gb Ä)))) rfl Ä fun x=>by kernel_rfl
def DF:ZP 45 xi:=zt (pn _) (Á Jz (Á wz (Á ur (Á Jy (Á zQ (Á JA Ä)))))) rfl (Á As (Á Au (Á Ar Ä))) fun x=>by kernel_rfl
def vH:ZP 46 lm:=zt (jq _) (Á fo Ä) rfl (Á mA Ä) fun x=>by kernel_rfl
def Ju:ZP 159 CF:=zt (Ko _) Ä rfl Ä fun x=>by kernel_rfl
def F9:ZP 153 xV:=zt (yv _) (Á Ju Ä) rfl (Á yu Ä) fun x=>by kernel_rfl
def P2:ZP 105 Iz:=zt (uW _) (Á F9 Ä) rfl (Á Ak (Á Aj Ä)) fun x=>by kernel_rfl
def AZ:ZP 47 qq:=zt (wU _) (Á P2 Ä) rfl Ä fun x=>by kernel_rfl
def JD:ZP 14 CO:=zt (Kv _) (Á hO (Á DF (Á vH (Á AZ Ä)))) rfl Ä fun x=>by kernel_rfl
def NU:ZP 48 EI:=zt (yL _) (Á hO (Á jB (Á oV Ä))) rfl (Á yK Ä) fun x=>by kernel_rfl
def JC:ZP 15 CN:=zt (Ku _) (Á NU (Á jB (Á Jz Ä))) rfl Ä fun x=>by kernel_rfl
def P4:ZP 51 IB:=zt (BJ _) (Á hO Ä) rfl (Á AF Ä) fun x=>by kernel_rfl
def F8:ZP 160 vZ:=zt (ł _) Ä rfl (Á sQ (Á sP (Á sN (Á sO (Á sM Ä))))) fun x=>wK x some
def NM:ZP 116 ED:=zt (yr _) (Á F9 (Á Ju (Á F8 Ä))) rfl (Á yq Ä) fun x=>by kernel_rfl
def K5:ZP 117 Bq:=zt (Ű _) Ä rfl (Á wP (Á wO (Á wN (Á wL (Á wM Ä))))) fun x=>Ai x some
def NN:ZP 54 EE:=zt (Hd _) (Á NM (Á K5 Ä)) rfl Ä fun x=>by kernel_rfl
def NS:ZP 55 EG:=zt (Hk _) (Á vI (Á Gd (Á Jw (Á Gb Ä)))) rfl Ä fun x=>by kernel_rfl
def zS:ZP 16 rl:=zt (C9 _) (Á DF (Á P4 (Á wz (Á ur (Á NN (Á NS Ä)))))) rfl Ä fun x=>by kernel_rfl
def F7:ZP 17 vY:=zt (Ad _) Ä rfl Ä fun x=>by kernel_rfl
def Gc:ZP 56 xY:=zt (Hj _) (Á hO Ä) rfl Ä fun x=>by kernel_rfl
def K7:ZP 18 Bs:=zt (Fu _) (Á Gc (Á vI Ä)) rfl Ä fun x=>by kernel_rfl
def P5:ZP 19 IC:=zt (Kt _) (Á Gc (Á Jy Ä)) rfl Ä fun x=>by kernel_rfl
def NW:ZP 20 EK:=zt (Hn _) (Á hO (Á zQ Ä)) rfl Ä fun x=>by kernel_rfl
def K6:ZP 21 Br:=zt (Fs _) (Á hO (Á DF Ä)) rfl Ä fun x=>by kernel_rfl
def Sa:ZP 22 LX:=zt (Fv _) (Á hO (Á jB (Á ur (Á oV (Á Cg (Á kE (Á JB (Á gJ Ä)))))))) rfl (Á Db Ä) fun x=>by kernel_rfl
def HI:ZP 6 xU:=zt (sI _) (Á JD (Á JC (Á zS (Á F7 (Á K7 (Á P5 (Á NW (Á K6 (Á Sa Ä))))))))) rfl Ä fun x=>yl x some
def P3:ZP 24 IA:=zt (BD _) (Á AW Ä) rfl (Á Ay Ä) fun x=>by kernel_rfl
def Ge:ZP 7 yb:=zt (ς _) (Á hO (Á P3 (Á AU Ä))) rfl (Á yQ (Á yP (Á yO (Á yN (Á yM Ä))))) fun x=>C8 x some
def zP:Š Tryz.prog 74 rk:=CA (iH _) (fun {_}=>Hs Ä (iH _) rfl rfl rfl rfl rfl (gw rfl) (RH (Á AX Ä) rfl) (gE rfl)) hmix rfl (Á uY Ä) (lf fun x=>yG x some)
def NT:ZP 80 EH:=zt (yE _) (Á zP Ä) rfl (Á yD Ä) fun x=>by kernel_rfl
def yW {ρ:Type} (a:DT Tryz.prog 82 qR):kJ.Ok (ŗ ρ):=⟨wW,a,yU,yS,by decide,yT,fun p v y c b=>(wY p v y c b).trans (wX p v y c b)⟩
def NV:Š Tryz.prog 8 EJ:=LQ (ŗ _) (fun {_}=>Hs (Á Ge (Á zN (Á qd (Á zP (Á NT Ä))))) (ŗ _) rfl rfl rfl rfl rfl (gw rfl) (pJ rfl) (gE rfl)) hmix rfl Ä (rtab:=wm) rfl (Á (yW Pw) Ä) (Á yV Ä) (lf fun x=>Da x some)
def DC:ZP 88 sl:=zt (oi _) Ä rfl (Á rx Ä) fun x=>by kernel_rfl
def w7:ZP 32 nh:=zt (sL _) (Á DC Ä) rfl Ä fun x=>by kernel_rfl
def AY:ZP 33 qo:=zt (nj _) Ä rfl (Á pU Ä) fun x=>by kernel_rfl
def NL:ZP 10 EC:=zt (jo _) (Á w7 (Á AY Ä)) rfl (Á yp (Á yo (Á yn (Á ym Ä)))) fun x=>by kernel_rfl
def K4:ZP 13 Bp:=zt (EY _) Ä rfl Ä fun x=>by kernel_rfl
def c_w5_CompareOrder:Š Tryz.prog 4 ŷ:=CA (ě _) (fun {_}=>Hs (Á K3 (Á HI (Á Ge (Á NV (Á NL (Á K4 (Á JD (Á JC (Á zS Ä))))))))) (ě _) rfl rfl rfl rfl rfl (MX (js:=iw) rfl) (pJ rfl) (gE rfl)) hmix rfl (Á mm (Á ml (Á mj Ä))) (lf fun x=>oh x some)
end Go.Proofs.ZzM
end
