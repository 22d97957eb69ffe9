/- lemmas -/
import Derived.Test.YtjlkjopcjcbooaaGreatDoorAmE
import Derived.Test.YtjlkjopcjcbooaaGreatDoorAmF
import Derived.Test.YtjlkjopcjcbooaaGreatDoorAmD
import Derived.Ground.NamesProg
import Derived.Ground.Names2Prog
import Derived.KernelRfl
import Derived.Test.YtjlkjopcjcbooaaGreatDoorMdMA
import Derived.Shelf.Small.Strs
import Derived.Shelf.Strconv.Itoa3
import Derived.Shelf.Strconv.AtoiAll
import Derived.Shelf.Strings.Prefix
import Derived.Shelf.Strings.Split
import Derived.Shelf.Strings.OnBuilder
import Derived.Test.YtjlkjopcjcbooaaGreatDoorAmC
import Derived.Test.YtjlkjopcjcbooaaGreatDoorAmG
import Derived.RangeFuncLeaves
import Derived.WalkKit
import Derived.OwnWalkIn
import Derived.TacticsInMore
import Derived.LoopNIn
import Derived.LoopIn
import Derived.Test.YtjlkjopcjcbooaaGreatDoorMdKA
import Derived.RangeFuncBox
import Derived.Lib.SliceRun
import Derived.Test.YtjlkjopcjcbooaaGreatDoorProg
import Derived.RangeFuncFrom
import Derived.RangeFuncRecord
import Derived.Test.YtjlkjopcjcbooaaGreatDoorMdKB
set_option linter.all false
noncomputable section
namespace Go.Proofs
open Go.Shelf
def Tryz.laysSort_ren:Go.Shelf.Ren:=⟨fun|189=>240|125=>287|257=>286|128=>308|129=>261|294=>299|295=>300|296=>301|297=>302|298=>303|299=>304|216=>305|300=>306|301=>307|328=>311|329=>312|330=>313|331=>314|332=>315|215=>316|343=>324|n=>n,fun|28=>33|3=>3|46=>307|0=>0|51=>305|53=>260|4=>4|183=>346|182=>345|131=>298|5=>5|9=>9|218=>359|222=>363|228=>371|229=>372|n=>n,fun|n=>n⟩
def Tryz.laysSort:Go.Proofs.Lays.n189 Tryz.prog Tryz.laysSort_ren:={
 mixed:=by kernel_rfl
 f125:=Tryz.func287.trans (congrArg some (by kernel_rfl))
 f128:=Tryz.func308.trans (congrArg some (by kernel_rfl))
 f129:=Tryz.func261.trans (congrArg some (by kernel_rfl))
 f189:=Tryz.func240.trans (congrArg some (by kernel_rfl))
 f215:=Tryz.func316.trans (congrArg some (by kernel_rfl))
 f216:=Tryz.func305.trans (congrArg some (by kernel_rfl))
 f257:=Tryz.func286.trans (congrArg some (by kernel_rfl))
 f294:=Tryz.func299.trans (congrArg some (by kernel_rfl))
 f295:=Tryz.func300.trans (congrArg some (by kernel_rfl))
 f296:=Tryz.func301.trans (congrArg some (by kernel_rfl))
 f297:=Tryz.func302.trans (congrArg some (by kernel_rfl))
 f298:=Tryz.func303.trans (congrArg some (by kernel_rfl))
 f299:=Tryz.func304.trans (congrArg some (by kernel_rfl))
 f300:=Tryz.func306.trans (congrArg some (by kernel_rfl))
 f301:=Tryz.func307.trans (congrArg some (by kernel_rfl))
 f328:=Tryz.func311.trans (congrArg some (by kernel_rfl))
 f329:=Tryz.func312.trans (congrArg some (by kernel_rfl))
 f330:=Tryz.func313.trans (congrArg some (by kernel_rfl))
 f331:=Tryz.func314.trans (congrArg some (by kernel_rfl))
 f332:=Tryz.func315.trans (congrArg some (by kernel_rfl))
 f343:=Tryz.func324.trans (congrArg some (by kernel_rfl))
 t0:=Tryz.underlying0
 a0:=Tryz.isAgg0
 z0:=Tryz.sizeOf0
 v0:=Tryz.zeroValue0
 t3:=Tryz.underlying3
 a3:=Tryz.isAgg3
 z3:=Tryz.sizeOf3
 v3:=Tryz.zeroValue3
 t4:=Tryz.underlying4
 a4:=Tryz.isAgg4
 z4:=Tryz.sizeOf4
 v4:=Tryz.zeroValue4
 t5:=Tryz.underlying5
 a5:=Tryz.isAgg5
 z5:=Tryz.sizeOf5
 v5:=Tryz.zeroValue5
 t9:=Tryz.underlying9
 a9:=Tryz.isAgg9
 z9:=Tryz.sizeOf9
 v9:=Tryz.zeroValue9
 t28:=Tryz.underlying33
 a28:=Tryz.isAgg33
 z28:=Tryz.sizeOf33
 v28:=Tryz.zeroValue33
 t46:=Tryz.underlying307
 a46:=Tryz.isAgg307
 z46:=Tryz.sizeOf307
 v46:=Tryz.zeroValue307
 t51:=Tryz.underlying305
 a51:=Tryz.isAgg305
 z51:=Tryz.sizeOf305
 v51:=Tryz.zeroValue305
 t53:=Tryz.underlying260
 a53:=Tryz.isAgg260
 z53:=Tryz.sizeOf260
 v53:=Tryz.zeroValue260
 t131:=Tryz.underlying298
 a131:=Tryz.isAgg298
 z131:=Tryz.sizeOf298
 v131:=Tryz.zeroValue298
 t182:=Tryz.underlying345
 a182:=Tryz.isAgg345
 z182:=Tryz.sizeOf345
 v182:=Tryz.zeroValue345
 t183:=Tryz.underlying346
 a183:=Tryz.isAgg346
 z183:=Tryz.sizeOf346
 v183:=Tryz.zeroValue346
 t218:=Tryz.underlying359
 a218:=Tryz.isAgg359
 z218:=Tryz.sizeOf359
 v218:=Tryz.zeroValue359
 t222:=Tryz.underlying363
 a222:=Tryz.isAgg363
 z222:=Tryz.sizeOf363
 v222:=Tryz.zeroValue363
 t228:=Tryz.underlying371
 a228:=Tryz.isAgg371
 z228:=Tryz.sizeOf371
 v228:=Tryz.zeroValue371
 t229:=Tryz.underlying372
 a229:=Tryz.isAgg372
 z229:=Tryz.sizeOf372
 v229:=Tryz.zeroValue372}
def Tryz.laysCompact_ren:Go.Shelf.Ren:=⟨fun|20=>241|n=>n,fun|22=>33|3=>3|4=>4|0=>0|n=>n,fun|n=>n⟩
def Tryz.laysCompact:Go.Proofs.Lays2.n20 Tryz.prog Tryz.laysCompact_ren:={
 mixed:=by kernel_rfl
 f20:=Tryz.func241.trans (congrArg some (by kernel_rfl))
 t0:=Tryz.underlying0
 a0:=Tryz.isAgg0
 z0:=Tryz.sizeOf0
 v0:=Tryz.zeroValue0
 t3:=Tryz.underlying3
 a3:=Tryz.isAgg3
 z3:=Tryz.sizeOf3
 v3:=Tryz.zeroValue3
 t4:=Tryz.underlying4
 a4:=Tryz.isAgg4
 z4:=Tryz.sizeOf4
 v4:=Tryz.zeroValue4
 t22:=Tryz.underlying33
 a22:=Tryz.isAgg33
 z22:=Tryz.sizeOf33
 v22:=Tryz.zeroValue33
 i3:=by kernel_rfl}
def Tryz.laysIndexByte_ren:Go.Shelf.Ren:=⟨fun|137=>169|217=>222|266=>269|n=>n,fun|9=>9|5=>5|3=>3|n=>n,fun|n=>n⟩
def Tryz.laysIndexByte:Go.Proofs.Lays.n137 Tryz.prog Tryz.laysIndexByte_ren:={
 mixed:=by kernel_rfl
 f137:=Tryz.func169.trans (congrArg some (by kernel_rfl))
 f217:=Tryz.func222.trans (congrArg some (by kernel_rfl))
 f266:=Tryz.func269.trans (congrArg some (by kernel_rfl))
 t3:=Tryz.underlying3
 a3:=Tryz.isAgg3
 z3:=Tryz.sizeOf3
 v3:=Tryz.zeroValue3
 t5:=Tryz.underlying5
 a5:=Tryz.isAgg5
 z5:=Tryz.sizeOf5
 v5:=Tryz.zeroValue5
 t9:=Tryz.underlying9
 a9:=Tryz.isAgg9
 z9:=Tryz.sizeOf9
 v9:=Tryz.zeroValue9}
def Tryz.laysItoa_ren:Go.Shelf.Ren:=⟨fun|171=>26|243=>79|246=>148|283=>213|284=>214|285=>215|286=>216|129=>261|317=>260|318=>262|319=>263|320=>264|337=>293|338=>294|n=>n,fun|3=>3|9=>9|2=>2|4=>4|171=>259|0=>0|53=>260|37=>153|5=>5|173=>263|212=>304|51=>305|20=>20|213=>306|46=>307|232=>357|233=>358|n=>n,fun|17=>0|18=>6|19=>7|n=>n⟩
def Tryz.laysItoa:Go.Proofs.LaysM.n171 Tryz.prog Tryz.laysItoa_ren:={
 mixed:=by kernel_rfl
 f129:=Tryz.func261.trans (congrArg some (by kernel_rfl))
 f171:=Tryz.func26.trans (congrArg some (by kernel_rfl))
 f243:=Tryz.func79.trans (congrArg some (by kernel_rfl))
 f246:=Tryz.func148.trans (congrArg some (by kernel_rfl))
 f283:=Tryz.func213.trans (congrArg some (by kernel_rfl))
 f284:=Tryz.func214.trans (congrArg some (by kernel_rfl))
 f285:=Tryz.func215.trans (congrArg some (by kernel_rfl))
 f286:=Tryz.func216.trans (congrArg some (by kernel_rfl))
 f317:=Tryz.func260.trans (congrArg some (by kernel_rfl))
 f318:=Tryz.func262.trans (congrArg some (by kernel_rfl))
 f319:=Tryz.func263.trans (congrArg some (by kernel_rfl))
 f320:=Tryz.func264.trans (congrArg some (by kernel_rfl))
 f337:=Tryz.func293.trans (congrArg some (by kernel_rfl))
 f338:=Tryz.func294.trans (congrArg some (by kernel_rfl))
 t0:=Tryz.underlying0
 a0:=Tryz.isAgg0
 z0:=Tryz.sizeOf0
 v0:=Tryz.zeroValue0
 t2:=Tryz.underlying2
 a2:=Tryz.isAgg2
 z2:=Tryz.sizeOf2
 v2:=Tryz.zeroValue2
 t3:=Tryz.underlying3
 a3:=Tryz.isAgg3
 z3:=Tryz.sizeOf3
 v3:=Tryz.zeroValue3
 t4:=Tryz.underlying4
 a4:=Tryz.isAgg4
 z4:=Tryz.sizeOf4
 v4:=Tryz.zeroValue4
 t5:=Tryz.underlying5
 a5:=Tryz.isAgg5
 z5:=Tryz.sizeOf5
 v5:=Tryz.zeroValue5
 t9:=Tryz.underlying9
 a9:=Tryz.isAgg9
 z9:=Tryz.sizeOf9
 v9:=Tryz.zeroValue9
 t20:=Tryz.underlying20
 a20:=Tryz.isAgg20
 z20:=Tryz.sizeOf20
 v20:=Tryz.zeroValue20
 t37:=Tryz.underlying153
 a37:=Tryz.isAgg153
 z37:=Tryz.sizeOf153
 v37:=Tryz.zeroValue153
 t46:=Tryz.underlying307
 a46:=Tryz.isAgg307
 z46:=Tryz.sizeOf307
 v46:=Tryz.zeroValue307
 t51:=Tryz.underlying305
 a51:=Tryz.isAgg305
 z51:=Tryz.sizeOf305
 v51:=Tryz.zeroValue305
 t53:=Tryz.underlying260
 a53:=Tryz.isAgg260
 z53:=Tryz.sizeOf260
 v53:=Tryz.zeroValue260
 t171:=Tryz.underlying259
 a171:=Tryz.isAgg259
 z171:=Tryz.sizeOf259
 v171:=Tryz.zeroValue259
 t173:=Tryz.underlying263
 a173:=Tryz.isAgg263
 z173:=Tryz.sizeOf263
 v173:=Tryz.zeroValue263
 t212:=Tryz.underlying304
 a212:=Tryz.isAgg304
 z212:=Tryz.sizeOf304
 v212:=Tryz.zeroValue304
 t213:=Tryz.underlying306
 a213:=Tryz.isAgg306
 z213:=Tryz.sizeOf306
 t232:=Tryz.underlying357
 a232:=Tryz.isAgg357
 z232:=Tryz.sizeOf357
 v232:=Tryz.zeroValue357
 t233:=Tryz.underlying358
 a233:=Tryz.isAgg358
 z233:=Tryz.sizeOf358
 v233:=Tryz.zeroValue358
 g17:=by kernel_rfl
 g18:=by kernel_rfl
 g19:=by kernel_rfl
 i0:=by kernel_rfl
 i2:=by kernel_rfl
 i3:=by kernel_rfl
 i4:=by kernel_rfl
 i5:=by kernel_rfl
 i9:=by kernel_rfl
 i20:=by kernel_rfl
 i37:=by kernel_rfl
 i46:=by kernel_rfl
 i51:=by kernel_rfl
 i53:=by kernel_rfl
 i171:=by kernel_rfl
 i173:=by kernel_rfl
 i212:=by kernel_rfl
 i232:=by kernel_rfl
 i233:=by kernel_rfl
 m17:=by kernel_rfl
 m18:=by kernel_rfl
 m19:=by kernel_rfl}
def Tryz.laysAtoi_ren:Go.Shelf.Ren:=⟨fun|172=>98|244=>174|245=>175|247=>227|279=>228|280=>229|281=>230|282=>231|287=>274|316=>275|171=>26|205=>276|321=>297|322=>298|243=>79|246=>148|283=>213|284=>214|285=>215|286=>216|129=>261|317=>260|318=>262|319=>263|320=>264|337=>293|338=>294|n=>n,fun|9=>9|3=>3|75=>164|76=>165|4=>4|5=>5|167=>275|37=>153|0=>0|85=>276|2=>2|168=>278|53=>260|175=>311|46=>307|210=>315|127=>258|145=>343|143=>341|21=>21|171=>259|173=>263|212=>304|51=>305|20=>20|213=>306|232=>357|233=>358|80=>222|n=>n,fun|15=>2|16=>3|17=>0|18=>6|19=>7|n=>n⟩
def Tryz.laysAtoi:Go.Proofs.LaysC.n172 Tryz.prog Tryz.laysAtoi_ren:={
 mixed:=by kernel_rfl
 f129:=Tryz.func261.trans (congrArg some (by kernel_rfl))
 f171:=Tryz.func26.trans (congrArg some (by kernel_rfl))
 f172:=Tryz.func98.trans (congrArg some (by kernel_rfl))
 f205:=Tryz.func276.trans (congrArg some (by kernel_rfl))
 f243:=Tryz.func79.trans (congrArg some (by kernel_rfl))
 f244:=Tryz.func174.trans (congrArg some (by kernel_rfl))
 f245:=Tryz.func175.trans (congrArg some (by kernel_rfl))
 f246:=Tryz.func148.trans (congrArg some (by kernel_rfl))
 f247:=Tryz.func227.trans (congrArg some (by kernel_rfl))
 f279:=Tryz.func228.trans (congrArg some (by kernel_rfl))
 f280:=Tryz.func229.trans (congrArg some (by kernel_rfl))
 f281:=Tryz.func230.trans (congrArg some (by kernel_rfl))
 f282:=Tryz.func231.trans (congrArg some (by kernel_rfl))
 f283:=Tryz.func213.trans (congrArg some (by kernel_rfl))
 f284:=Tryz.func214.trans (congrArg some (by kernel_rfl))
 f285:=Tryz.func215.trans (congrArg some (by kernel_rfl))
 f286:=Tryz.func216.trans (congrArg some (by kernel_rfl))
 f287:=Tryz.func274.trans (congrArg some (by kernel_rfl))
 f316:=Tryz.func275.trans (congrArg some (by kernel_rfl))
 f317:=Tryz.func260.trans (congrArg some (by kernel_rfl))
 f318:=Tryz.func262.trans (congrArg some (by kernel_rfl))
 f319:=Tryz.func263.trans (congrArg some (by kernel_rfl))
 f320:=Tryz.func264.trans (congrArg some (by kernel_rfl))
 f321:=Tryz.func297.trans (congrArg some (by kernel_rfl))
 f322:=Tryz.func298.trans (congrArg some (by kernel_rfl))
 f337:=Tryz.func293.trans (congrArg some (by kernel_rfl))
 f338:=Tryz.func294.trans (congrArg some (by kernel_rfl))
 t0:=Tryz.underlying0
 a0:=Tryz.isAgg0
 z0:=Tryz.sizeOf0
 v0:=Tryz.zeroValue0
 t2:=Tryz.underlying2
 a2:=Tryz.isAgg2
 z2:=Tryz.sizeOf2
 v2:=Tryz.zeroValue2
 t3:=Tryz.underlying3
 a3:=Tryz.isAgg3
 z3:=Tryz.sizeOf3
 v3:=Tryz.zeroValue3
 t4:=Tryz.underlying4
 a4:=Tryz.isAgg4
 z4:=Tryz.sizeOf4
 v4:=Tryz.zeroValue4
 t5:=Tryz.underlying5
 a5:=Tryz.isAgg5
 z5:=Tryz.sizeOf5
 v5:=Tryz.zeroValue5
 t9:=Tryz.underlying9
 a9:=Tryz.isAgg9
 z9:=Tryz.sizeOf9
 v9:=Tryz.zeroValue9
 t20:=Tryz.underlying20
 a20:=Tryz.isAgg20
 z20:=Tryz.sizeOf20
 v20:=Tryz.zeroValue20
 t21:=Tryz.underlying21
 a21:=Tryz.isAgg21
 z21:=Tryz.sizeOf21
 v21:=Tryz.zeroValue21
 t37:=Tryz.underlying153
 a37:=Tryz.isAgg153
 z37:=Tryz.sizeOf153
 v37:=Tryz.zeroValue153
 t46:=Tryz.underlying307
 a46:=Tryz.isAgg307
 z46:=Tryz.sizeOf307
 v46:=Tryz.zeroValue307
 t51:=Tryz.underlying305
 a51:=Tryz.isAgg305
 z51:=Tryz.sizeOf305
 v51:=Tryz.zeroValue305
 t53:=Tryz.underlying260
 a53:=Tryz.isAgg260
 z53:=Tryz.sizeOf260
 v53:=Tryz.zeroValue260
 t75:=Tryz.underlying164
 a75:=Tryz.isAgg164
 z75:=Tryz.sizeOf164
 v75:=Tryz.zeroValue164
 t76:=Tryz.underlying165
 a76:=Tryz.isAgg165
 z76:=Tryz.sizeOf165
 v76:=Tryz.zeroValue165
 t85:=Tryz.underlying276
 a85:=Tryz.isAgg276
 z85:=Tryz.sizeOf276
 v85:=Tryz.zeroValue276
 t127:=Tryz.underlying258
 a127:=Tryz.isAgg258
 z127:=Tryz.sizeOf258
 v127:=Tryz.zeroValue258
 t143:=Tryz.underlying341
 a143:=Tryz.isAgg341
 z143:=Tryz.sizeOf341
 v143:=Tryz.zeroValue341
 t145:=Tryz.underlying343
 a145:=Tryz.isAgg343
 z145:=Tryz.sizeOf343
 v145:=Tryz.zeroValue343
 t167:=Tryz.underlying275
 a167:=Tryz.isAgg275
 z167:=Tryz.sizeOf275
 v167:=Tryz.zeroValue275
 t168:=Tryz.underlying278
 a168:=Tryz.isAgg278
 z168:=Tryz.sizeOf278
 v168:=Tryz.zeroValue278
 t171:=Tryz.underlying259
 a171:=Tryz.isAgg259
 z171:=Tryz.sizeOf259
 v171:=Tryz.zeroValue259
 t173:=Tryz.underlying263
 a173:=Tryz.isAgg263
 z173:=Tryz.sizeOf263
 v173:=Tryz.zeroValue263
 t175:=Tryz.underlying311
 a175:=Tryz.isAgg311
 z175:=Tryz.sizeOf311
 v175:=Tryz.zeroValue311
 t210:=Tryz.underlying315
 a210:=Tryz.isAgg315
 z210:=Tryz.sizeOf315
 v210:=Tryz.zeroValue315
 t212:=Tryz.underlying304
 a212:=Tryz.isAgg304
 z212:=Tryz.sizeOf304
 v212:=Tryz.zeroValue304
 t213:=Tryz.underlying306
 a213:=Tryz.isAgg306
 z213:=Tryz.sizeOf306
 t232:=Tryz.underlying357
 a232:=Tryz.isAgg357
 z232:=Tryz.sizeOf357
 v232:=Tryz.zeroValue357
 t233:=Tryz.underlying358
 a233:=Tryz.isAgg358
 z233:=Tryz.sizeOf358
 v233:=Tryz.zeroValue358
 g15:=by kernel_rfl
 g16:=by kernel_rfl
 g17:=by kernel_rfl
 g18:=by kernel_rfl
 g19:=by kernel_rfl
 t80:=Tryz.underlying222
 a80:=Tryz.isAgg222
 z80:=Tryz.sizeOf222
 v80:=Tryz.zeroValue222
 i0:=by kernel_rfl
 i2:=by kernel_rfl
 i3:=by kernel_rfl
 i4:=by kernel_rfl
 i5:=by kernel_rfl
 i9:=by kernel_rfl
 i20:=by kernel_rfl
 i21:=by kernel_rfl
 i37:=by kernel_rfl
 i46:=by kernel_rfl
 i51:=by kernel_rfl
 i53:=by kernel_rfl
 i75:=by kernel_rfl
 i76:=by kernel_rfl
 i80:=by kernel_rfl
 i85:=by kernel_rfl
 i127:=by kernel_rfl
 i143:=by kernel_rfl
 i145:=by kernel_rfl
 i167:=by kernel_rfl
 i168:=by kernel_rfl
 i171:=by kernel_rfl
 i173:=by kernel_rfl
 i175:=by kernel_rfl
 i210:=by kernel_rfl
 i212:=by kernel_rfl
 i232:=by kernel_rfl
 i233:=by kernel_rfl
 m15:=by kernel_rfl
 m16:=by kernel_rfl
 m17:=by kernel_rfl
 m18:=by kernel_rfl
 m19:=by kernel_rfl
 c0:=by kernel_rfl
 c2:=by kernel_rfl
 c3:=by kernel_rfl
 c4:=by kernel_rfl
 c5:=by kernel_rfl
 c9:=by kernel_rfl
 c20:=by kernel_rfl
 c21:=by kernel_rfl
 c37:=by kernel_rfl
 c46:=by kernel_rfl
 c51:=by kernel_rfl
 c53:=by kernel_rfl
 c75:=by kernel_rfl
 c76:=by kernel_rfl
 c80:=by kernel_rfl
 c85:=by kernel_rfl
 c127:=by kernel_rfl
 c143:=by kernel_rfl
 c145:=by kernel_rfl
 c167:=by kernel_rfl
 c168:=by kernel_rfl
 c171:=by kernel_rfl
 c173:=by kernel_rfl
 c175:=by kernel_rfl
 c210:=by kernel_rfl
 c212:=by kernel_rfl
 c213:=by kernel_rfl
 c232:=by kernel_rfl
 c233:=by kernel_rfl}
def Tryz.laysTrimSuffix_ren:Go.Shelf.Ren:=⟨fun|102=>42|209=>97|207=>173|n=>n,fun|9=>9|4=>4|3=>3|n=>n,fun|n=>n⟩
def Tryz.laysTrimSuffix:Go.Proofs.Lays.n102 Tryz.prog Tryz.laysTrimSuffix_ren:={
 mixed:=by kernel_rfl
 f102:=Tryz.func42.trans (congrArg some (by kernel_rfl))
 f207:=Tryz.func173.trans (congrArg some (by kernel_rfl))
 f209:=Tryz.func97.trans (congrArg some (by kernel_rfl))
 t3:=Tryz.underlying3
 a3:=Tryz.isAgg3
 z3:=Tryz.sizeOf3
 v3:=Tryz.zeroValue3
 t4:=Tryz.underlying4
 a4:=Tryz.isAgg4
 z4:=Tryz.sizeOf4
 v4:=Tryz.zeroValue4
 t9:=Tryz.underlying9
 a9:=Tryz.isAgg9
 z9:=Tryz.sizeOf9
 v9:=Tryz.zeroValue9}
def Tryz.laysSplit_ren:Go.Shelf.Ren:=⟨fun|146=>41|221=>96|268=>170|138=>171|143=>172|195=>223|197=>224|218=>225|219=>226|260=>270|217=>222|225=>271|224=>272|267=>273|266=>269|314=>296|n=>n,fun|9=>9|31=>88|3=>3|4=>4|0=>0|105=>273|21=>21|5=>5|46=>307|119=>334|139=>337|138=>336|146=>338|51=>305|n=>n,fun|1=>1|3=>4|4=>5|n=>n⟩
def Tryz.laysSplit:Go.Proofs.Lays.n146 Tryz.prog Tryz.laysSplit_ren:={
 mixed:=by kernel_rfl
 f138:=Tryz.func171.trans (congrArg some (by kernel_rfl))
 f143:=Tryz.func172.trans (congrArg some (by kernel_rfl))
 f146:=Tryz.func41.trans (congrArg some (by kernel_rfl))
 f195:=Tryz.func223.trans (congrArg some (by kernel_rfl))
 f197:=Tryz.func224.trans (congrArg some (by kernel_rfl))
 f217:=Tryz.func222.trans (congrArg some (by kernel_rfl))
 f218:=Tryz.func225.trans (congrArg some (by kernel_rfl))
 f219:=Tryz.func226.trans (congrArg some (by kernel_rfl))
 f221:=Tryz.func96.trans (congrArg some (by kernel_rfl))
 f224:=Tryz.func272.trans (congrArg some (by kernel_rfl))
 f225:=Tryz.func271.trans (congrArg some (by kernel_rfl))
 f260:=Tryz.func270.trans (congrArg some (by kernel_rfl))
 f266:=Tryz.func269.trans (congrArg some (by kernel_rfl))
 f267:=Tryz.func273.trans (congrArg some (by kernel_rfl))
 f268:=Tryz.func170.trans (congrArg some (by kernel_rfl))
 f314:=Tryz.func296.trans (congrArg some (by kernel_rfl))
 t0:=Tryz.underlying0
 a0:=Tryz.isAgg0
 z0:=Tryz.sizeOf0
 v0:=Tryz.zeroValue0
 t3:=Tryz.underlying3
 a3:=Tryz.isAgg3
 z3:=Tryz.sizeOf3
 v3:=Tryz.zeroValue3
 t4:=Tryz.underlying4
 a4:=Tryz.isAgg4
 z4:=Tryz.sizeOf4
 v4:=Tryz.zeroValue4
 t5:=Tryz.underlying5
 a5:=Tryz.isAgg5
 z5:=Tryz.sizeOf5
 v5:=Tryz.zeroValue5
 t9:=Tryz.underlying9
 a9:=Tryz.isAgg9
 z9:=Tryz.sizeOf9
 v9:=Tryz.zeroValue9
 t21:=Tryz.underlying21
 a21:=Tryz.isAgg21
 z21:=Tryz.sizeOf21
 v21:=Tryz.zeroValue21
 t31:=Tryz.underlying88
 a31:=Tryz.isAgg88
 z31:=Tryz.sizeOf88
 v31:=Tryz.zeroValue88
 t46:=Tryz.underlying307
 a46:=Tryz.isAgg307
 z46:=Tryz.sizeOf307
 v46:=Tryz.zeroValue307
 t51:=Tryz.underlying305
 a51:=Tryz.isAgg305
 z51:=Tryz.sizeOf305
 v51:=Tryz.zeroValue305
 t105:=Tryz.underlying273
 a105:=Tryz.isAgg273
 z105:=Tryz.sizeOf273
 v105:=Tryz.zeroValue273
 t119:=Tryz.underlying334
 a119:=Tryz.isAgg334
 z119:=Tryz.sizeOf334
 t138:=Tryz.underlying336
 a138:=Tryz.isAgg336
 z138:=Tryz.sizeOf336
 v138:=Tryz.zeroValue336
 t139:=Tryz.underlying337
 a139:=Tryz.isAgg337
 z139:=Tryz.sizeOf337
 v139:=Tryz.zeroValue337
 t146:=Tryz.underlying338
 a146:=Tryz.isAgg338
 z146:=Tryz.sizeOf338
 v146:=Tryz.zeroValue338
 g1:=by kernel_rfl
 g3:=by kernel_rfl
 g4:=by kernel_rfl}
def Tryz.laysJoin_ren:Go.Shelf.Ren:=⟨fun|156=>78|165=>145|166=>146|169=>147|240=>211|241=>212|276=>258|277=>259|n=>n,fun|31=>88|9=>9|3=>3|4=>4|0=>0|20=>20|72=>220|76=>165|70=>218|37=>153|75=>164|127=>258|164=>300|5=>5|80=>222|n=>n,fun|n=>n⟩
def Tryz.laysJoin:Go.Proofs.Lays.n156 Tryz.prog Tryz.laysJoin_ren:={
 mixed:=by kernel_rfl
 f156:=Tryz.func78.trans (congrArg some (by kernel_rfl))
 f165:=Tryz.func145.trans (congrArg some (by kernel_rfl))
 f166:=Tryz.func146.trans (congrArg some (by kernel_rfl))
 f169:=Tryz.func147.trans (congrArg some (by kernel_rfl))
 f240:=Tryz.func211.trans (congrArg some (by kernel_rfl))
 f241:=Tryz.func212.trans (congrArg some (by kernel_rfl))
 f276:=Tryz.func258.trans (congrArg some (by kernel_rfl))
 f277:=Tryz.func259.trans (congrArg some (by kernel_rfl))
 t0:=Tryz.underlying0
 a0:=Tryz.isAgg0
 z0:=Tryz.sizeOf0
 v0:=Tryz.zeroValue0
 t3:=Tryz.underlying3
 a3:=Tryz.isAgg3
 z3:=Tryz.sizeOf3
 v3:=Tryz.zeroValue3
 t4:=Tryz.underlying4
 a4:=Tryz.isAgg4
 z4:=Tryz.sizeOf4
 v4:=Tryz.zeroValue4
 t9:=Tryz.underlying9
 a9:=Tryz.isAgg9
 z9:=Tryz.sizeOf9
 v9:=Tryz.zeroValue9
 t20:=Tryz.underlying20
 a20:=Tryz.isAgg20
 z20:=Tryz.sizeOf20
 v20:=Tryz.zeroValue20
 t31:=Tryz.underlying88
 a31:=Tryz.isAgg88
 z31:=Tryz.sizeOf88
 v31:=Tryz.zeroValue88
 t37:=Tryz.underlying153
 a37:=Tryz.isAgg153
 z37:=Tryz.sizeOf153
 v37:=Tryz.zeroValue153
 t70:=Tryz.underlying218
 a70:=Tryz.isAgg218
 z70:=Tryz.sizeOf218
 v70:=Tryz.zeroValue218
 t72:=Tryz.underlying220
 a72:=Tryz.isAgg220
 z72:=Tryz.sizeOf220
 v72:=Tryz.zeroValue220
 t75:=Tryz.underlying164
 a75:=Tryz.isAgg164
 z75:=Tryz.sizeOf164
 v75:=Tryz.zeroValue164
 t76:=Tryz.underlying165
 a76:=Tryz.isAgg165
 z76:=Tryz.sizeOf165
 v76:=Tryz.zeroValue165
 t127:=Tryz.underlying258
 a127:=Tryz.isAgg258
 z127:=Tryz.sizeOf258
 v127:=Tryz.zeroValue258
 t164:=Tryz.underlying300
 a164:=Tryz.isAgg300
 z164:=Tryz.sizeOf300
 v164:=Tryz.zeroValue300}
end Go.Proofs
end

noncomputable section
namespace Go.Proofs
end Go.Proofs
namespace Go.Proofs.ZzM
open Go Go.Am Go.RowKit
set_option maxRecDepth 100000
end Go.Proofs.ZzM
namespace Go.Proofs
def Tryz.builderX:Builder.Extra Tryz.prog Tryz.laysJoin_ren:=⟨⟨by kernel_rfl,by kernel_rfl⟩,Tryz.underlying5,Tryz.isAgg5,Tryz.sizeOf5,Tryz.zeroValue5,by kernel_rfl,by kernel_rfl,by kernel_rfl,by decide⟩
end Go.Proofs
namespace Go.Proofs.ZzM
open Go Go.Am Go.RowKit
abbrev gMax:Nat:=Tryz.laysSplit_ren.g 1
abbrev gSyn:Nat:=Tryz.laysAtoi_ren.g 15
abbrev gRng:Nat:=Tryz.laysAtoi_ren.g 16
def gMax_lt:gMax<Tryz.prog.globals.size:=of_decide_eq_true (by kernel_rfl)
def adj:gSyn<Tryz.prog.globals.size:=of_decide_eq_true (by kernel_rfl)
def adk:gRng<Tryz.prog.globals.size:=of_decide_eq_true (by kernel_rfl)
abbrev gPow : Nat := (Tryz.prog.globalNamed "internal/strconv.uint64pow10").getD 0
def adm : Tryz.prog.globalNamed "internal/strconv.uint64pow10" = some gPow := by kernel_rfl
def adl:gPow<Tryz.prog.globals.size:=of_decide_eq_true (by kernel_rfl)
def X5 (w:World) (g:Nat):Prop:=∃ev,w.cell? ⟨g,0,none⟩=some ev/\(ev=.nilIface\/∃a b,ev=.iface a b)
structure GlobW (w:World):Prop where
 pow : Lib.TabIs Tryz.prog w "internal/strconv.uint64pow10" .u64 Lib.pow10Tab
 max:∃m,w.cell? ⟨gMax,0,none⟩=some (.int .i64 m)
 syn:X5 w gSyn
 rng:X5 w gRng
 cel:∀b,b<Tryz.prog.globals.size->∃c e r,w.heap[b]?=some (.cells c e r)
def G7 {w w':World} {b:Nat} (h:w'.heap[b]?=w.heap[b]?) (i:Nat):w'.cell? ⟨b,i,none⟩=w.cell? ⟨b,i,none⟩:=by
 unfold World.cell?; simp only[h]
instance:Globs where
 n:=Tryz.prog.globals.size
 Φ:=GlobW
 keep:=fun w w' H a=>by
  obtain⟨c,⟨m,h2⟩,⟨k,i,g⟩,⟨j,f,e⟩,d⟩:=H;refine⟨?_,⟨m,(G7 (a _ gMax_lt) 0).trans h2⟩,⟨k,(G7 (a _ adj) 0).trans i,g⟩,⟨j,(G7 (a _ adk) 0).trans f,e⟩,fun b hb=>by rw[a b hb]; exact d b hb⟩;unfold Lib.TabIs World.var? at c ⊢;rw[adm] at c ⊢;simp only[Option.bind_some] at c ⊢;rw[a _ adl]; exact c
 cel:=fun w H=>H.cel
def Q7 (w:World) (t:TypeId) (x:ByteArray):Below w.heap.size w (Lib.bytesWorld w t x):=⟨rfl,rfl,rfl,by rw[Lib.bytesWorld_size]; omega,fun j a=>Lib.bytesWorld_at_old w t x j a⟩
def fItoa:Tryz.laysItoa_ren.f 171=26:=by kernel_rfl
def fTrim:Tryz.laysTrimSuffix_ren.f 102=42:=by kernel_rfl
def fIndex:Tryz.laysIndexByte_ren.f 137=169:=by kernel_rfl
def ab6:Tryz.laysSplit_ren.f 146=41:=by kernel_rfl
def fJoin:Tryz.laysJoin_ren.f 156=78:=by kernel_rfl
def xX:Þ Tryz.prog 169 i7:=jF ⟨_,_,Tryz.func169,rfl⟩ fun G x y g w vals j b a=>by
 obtain⟨v1,vs,rfl,i,v2,rfl,h2⟩:=a;rw[Cm i,Zf h2];have c:some (Lib.indexByte x.1.data.toList x.2.toNat.toUInt8)=some y:=g;cases c;have:=Any.strings_IndexByte Tryz.laysIndexByte x.1 x.2 w;rw[fIndex] at this;exact this.mono fun e w' ⟨f,d⟩=>⟨_,f,int_arg _ _,by rw[d]; exact Below.refl _ _⟩
def mn:Þ Tryz.prog 42 iA:=jF ⟨_,_,Tryz.func42,rfl⟩ fun G x y a w vals j c b=>by
 obtain⟨v1,vs,rfl,i,v2,rfl,h2⟩:=b;rw[Cm i,Cm h2];have a:VG x.1 x.2=some y:=a;unfold VG at a
 split at a<;>cases a
 rename_i f;have:=Any.strings_TrimSuffix Tryz.laysTrimSuffix x.1 x.2 w f;rw[fTrim] at this;exact this.mono fun e w' ⟨g,d⟩=>⟨_,g,Kk _,by rw[d]; exact Below.refl _ _⟩
def pA:Þ Tryz.prog 26 kT:=jF ⟨_,_,Tryz.func26,rfl⟩ fun G x y a w vals o c f=>by
 obtain⟨v1,rfl,j⟩:=f;rw[Zf j];have a:XH x=some y:=a;unfold XH at a
 split at a<;>cases a
 rename_i d;simp only[i64B,bZ,decide_eq_true_eq] at d;have:=Any.strconv_Itoa Tryz.laysItoa x d.1 d.2 w c.pow;rw[fItoa] at this;exact this.mono fun e w' ⟨i, k, os, g⟩ => ⟨_, i, Kk _, by rw [g]; exact ⟨rfl, rfl, rfl, by simp [«Sort».grow, World.drewN], fun b hb => by simp [«Sort».grow, World.drewN, dU, hb]⟩⟩
def G9:Þ Tryz.prog 41 tF:=jF ⟨_,_,Tryz.func41,rfl⟩ fun G x y b w vals k d f=>by
 obtain⟨v1,vs,rfl,o,v2,rfl,h2⟩:=f;rw[Cm o,Cm h2];have b:tp x.1 x.2=some y:=b;unfold tp at b
 split at b<;>cases b
 rename_i c;simp only[bZ,decide_eq_true_eq] at c;obtain⟨m,i⟩:=d.max;have:=Any.strings_Split Tryz.laysSplit (by kernel_rfl) x.1 x.2 m w c.1 i c.2;rw[ab6] at this;have a:=Lib.splitB_all x.2 c.2 0 _ x.1 rfl;exact this.mono fun e w' ⟨j,g⟩=>⟨_,j,by rw[g,<-a]; exact ZT (World.alloc_heap_new w _) (fun hb=>absurd (k _ hb) (Nat.lt_irrefl _)) rfl,by rw[g]; exact(Below.refl _ _).alloc (bX _) _⟩
def DG:XOk Tryz.prog 41 .split:=show Rb Tryz.prog 41 from⟨⟨_,_,Tryz.func41,rfl⟩,fun w s a y d f=>by
 unfold tp at f
 split at f<;>cases f
 rename_i c;simp only[bZ,decide_eq_true_eq] at c;obtain⟨m,i⟩:=d.max;have:=Any.strings_Split Tryz.laysSplit (by kernel_rfl) s a m w c.1 i c.2;rw[ab6] at this;have b:=Lib.splitB_all a c.2 0 _ s rfl
 exact this.mono fun e w' ⟨j,g⟩=>⟨by rw[j,b],_,g⟩⟩
def Iw:Þ Tryz.prog 78 wc:=jF ⟨_,_,Tryz.func78,rfl⟩ fun G x y c w vals r j i=>by
 obtain⟨v1,vs,rfl,q,v2,rfl,h2⟩:=i;obtain⟨xs,a⟩:=x;rw[Cm h2];obtain⟨base,cap,rfl,k,p⟩:=abB q;have c:XF xs a=some y:=c;unfold XF at c
 split at c<;>cases c
 rename_i f;simp only[bZ,decide_eq_true_eq] at f;rcases p with rfl|⟨b,o,rfl,hb,hcells⟩
 ·have:=Any.strings_Join_none Tryz.laysJoin Tryz.builderX base cap a w;rw[fJoin] at this;exact this.mono fun e w' ⟨g,d⟩=>⟨_,g,Kk _,by rw[d]; exact Below.refl _ _⟩
 ·have:=Any.strings_Join Tryz.laysJoin Tryz.builderX b o cap xs a w hcells hb f.1 k f.2;rw[fJoin] at this;exact this.mono fun e w' ⟨g,d⟩=>⟨_,g,Kk _,d⟩
def adt:Tryz.laysAtoi_ren.f 172=98:=by kernel_rfl
def xe:XOk Tryz.prog 98 .atoi:=show Zw Tryz.prog 98 from⟨⟨_,_,Tryz.func98,rfl⟩,fun w s r a f=>by
 unfold Vi at f
 split at f<;>cases f
 rename_i d;have d:=of_decide_eq_true d
 cases ha:Lib.atoiAll s.data.toList with
 |ok v =>
  have:=Any.strconv_Atoi_ok Tryz.laysAtoi s (by omega) v ha w;rw[adt] at this;refine this.mono fun e w' ⟨c,b⟩=>⟨.nilIface,c,rfl,fun _=>rfl,fun h=>(by cases h),?_⟩;rcases b with rfl|⟨t,rfl⟩
  ·exact Below.refl _ _
  ·exact Q7 _ _ _
 | range =>
  obtain⟨ev,g,h2⟩:=a.rng;have:=Any.strconv_Atoi_range Tryz.laysAtoi s d ha ev w g h2;rw[adt] at this
  exact this.mono fun e w' ⟨N,c,_,_,b⟩=>⟨_,c,rfl,fun h=>(by cases h),fun _=>⟨_,_,rfl⟩,b⟩
 | _ =>
  obtain⟨ev,g,h2⟩:=a.syn;have:=Any.strconv_Atoi_syntax Tryz.laysAtoi s d ha ev w g h2;rw[adt] at this;exact this.mono fun e w' ⟨N,c,_,_,b⟩=>⟨_,c,rfl,fun h=>(by cases h),fun _=>⟨_,_,rfl⟩,b⟩⟩
end Go.Proofs.ZzM
end

noncomputable section
namespace Go.Proofs.ZzM
open Go Go.Am
def hmix:Tryz.prog.follows .mixedOrders=true:=by kernel_rfl
def plain_ : (Tryz.prog.funcs.toList.all fun fn => !(fn.name == "runtime.NumGoroutine")) = true := by kernel_rfl
def plain (f : Nat) (fn : Func) (h : Tryz.prog.funcs[f]? = some fn) : (fn.name == "runtime.NumGoroutine") = false := by
 have:=cr.1 plain_ fn (ci (i:=f) (by simpa using h));simpa using this
def acE:Tryz.laysSort_ren.f 189=240:=by kernel_rfl
def T5:Tryz.laysCompact_ren.f 20=241:=by kernel_rfl
section
variable [É] {ρ:Type}
def sortOk (f:Nat) (a:Gi f=true) (h:y5 Blk) (x:AV) (K:AV->y5 Blk->x9 ρ) (q:ρ) (e:Ko h x K=some q) (ν:Nat->Value) (w:World) (u:Value) (H:HR ν h w) (b:VR ν h w x u):Bi Tryz.prog f ν h w [u] K q:=by
 have c:f=240:=by
  unfold Gi at a
  split at a
  ·rfl
  ·cases a
 subst c;have:=acv Tryz.laysSort e H b ⟨_,rfl⟩
 rwa [acE] at this
def Yw (f:Nat) (a:nP f=true) (h:y5 Blk) (x:AV) (K:AV->y5 Blk->x9 ρ) (q:ρ) (e:mN h x K=some q) (ν:Nat->Value) (w:World) (u:Value) (H:HR ν h w) (b:VR ν h w x u):Bi Tryz.prog f ν h w [u] K q:=by
 have c:f=241:=by
  unfold nP at a
  split at a
  ·rfl
  ·cases a
 subst c;have:=UY Tryz.laysCompact e H b ⟨_,rfl⟩
 rwa [T5] at this
def adF:Cq Tryz.prog xR:=by
 intro g c fz S nid x v d e ν w u H a b hd;unfold xR at c
 split at c
 ·exact vI Tryz.func112 (T:=33) (by kernel_rfl) (by kernel_rfl) e H a b hd
 ·exact vI Tryz.func277 (T:=24) (by kernel_rfl) (by kernel_rfl) e H a b hd
 ·exact vI Tryz.func278 (T:=25) (by kernel_rfl) (by kernel_rfl) e H a b hd
 ·exact vI Tryz.func279 (T:=26) (by kernel_rfl) (by kernel_rfl) e H a b hd
 ·exact vI Tryz.func280 (T:=28) (by kernel_rfl) (by kernel_rfl) e H a b hd
 ·exact vI Tryz.func281 (T:=27) (by kernel_rfl) (by kernel_rfl) e H a b hd
 ·cases c
def BT {pt:y5 (Nat×Č)} (h:∀e∈pt,Þ Tryz.prog e.1 e.2) (E:Env ρ) (b:E.P=Tryz.prog) (k:E.pure=Iu pt) (h2:E.sort=Gi) (j:E.compact=nP) (i:E.clone=xR) (g:TI E) (d:∀f X,E.ext f=some X->Pq E.P f X) (c:Ι E):uR E:=by
 constructor
 ·intro f p a;rw[k] at a;rw[b];exact h (f,p) (JX a)
 ·intro f a;rw[h2] at a;rw[b];exact sortOk f a
 ·intro f a;rw[j] at a;rw[b];exact Yw f a
 ·rw[b]; exact plain
 ·rw[b,i]; exact adF
 ·exact g
 ·exact c
 ·exact d
def libN {pt:y5 (Nat×Č)} (h:∀e∈pt,Þ Tryz.prog e.1 e.2) (tab:y5 (į ρ)):uR (ê pt tab):=BT h _ rfl rfl rfl rfl rfl (Ń rfl) (lh rfl) (ľ rfl)
end
abbrev ZP (f:Nat) (p:Č):Prop:=Þ Tryz.prog f p
def zt {f:Nat} {p:Č} {pt:y5 (Nat×Č)} {tab:y5 (į (Val (tyL p.rs)))} (E:Env (Val (tyL p.rs))) (b:∀e∈pt,Þ Tryz.prog e.1 e.2) (c:E=ê pt tab) (a:∀x∈tab,x.Ok E) (law:∀x:Val (tyL p.ts),ZK E f (Ee p.ts x) (fun h v=>Ã (T4 p.rs h v) some)=p.F x):Þ Tryz.prog f p:=by
 subst c;exact uX (ê pt tab) (fun {_}=>libN b _) hmix (tab:=tab) rfl a (jm law)
end Go.Proofs.ZzM
end

noncomputable section
namespace Go.Proofs.ZzM
open Go Go.Am Go.RowKit
set_option maxRecDepth 100000
noncomputable def lfC:Code->Code
 |.seq a _=>a
 |_=>.skip
noncomputable def lsC:Code->Code
 |.seq _ b=>b
 |_=>.skip
noncomputable def lbC:Code->Code
 |.block _ b=>b
 |_=>.skip
noncomputable def llC:Code->Code
 |.loop b=>b
 |_=>.skip
noncomputable def liB:Code:=Tryz.f168.body.getD .skip
noncomputable def li0:Code:=lfC (llC (lbC liB))
noncomputable def li1:Code:=lbC (lsC (llC (lbC liB)))
noncomputable def liR:Code:=lfC li1
noncomputable def liM:Code:=lfC (lsC li1)
noncomputable def liY:Code:=lfC (lsC (lsC li1))
noncomputable def liC:Code:=lsC (lsC (lsC li1))
def liB_eq:liB=.block 0 (.loop (.seq li0 (.block 1 (.seq liR (.seq liM (.seq liY liC)))))):=by kernel_rfl
def ab3:Tryz.f168.body=some liB:=by kernel_rfl
noncomputable def liE (ρ:Type):Env ρ:={P:=Tryz.prog,eat:=fun _ _=>false,clone:=fun _=>false,sort:=fun _=>false,compact:=fun _=>false,inl:=fun _=>false,fz:=fun _=>false,pure:=Iu [(169,i7)],loops:=gK [],ranges:=ż []}
abbrev liT:Type:=Exit×AV×AV×AV×y5 Blk×Nat×Bool
def liK (e:Exit) (S:St):x9 liT:=some (e,lk S.t 0,lk S.t 1,lk S.t 3,S.h,S.t.length,true)
def liS (s:ByteArray) (x:AV):St:={t:=[.yld,.box 0 0,.any,x]++List.replicate 21 .any,h:=[.cells [.str s]]}
def li_0 (s:ByteArray):goC (liE liT) (ŭ (liE liT) 10) 168 [] 1 0 li0 (liS s .any) liK=ifb (igt (DX s.size) 0) (some (.normal,.yld,.box 0 0,.any,[.cells [.str s]],25,true)) (some (.exit 0,.yld,.box 0 0,.any,[.cells [.str s]],25,true)):=by kernel_rfl
def li_R (s:ByteArray):goC (liE liT) (ŭ (liE liT) 10) 168 [] 1 1 liR (liS s .any) liK=some (.normal,.yld,.box 0 0,.str ⟨#[]⟩,[.cells [.str s]],25,true):=by kernel_rfl
noncomputable def aaE (s:ByteArray) (r:Int):x9 liT :=
 ifb (ige r 0) (match decide (0<=PC (r+1))&&decide (PC (r+1)<=s.size) with
  |true=>match decide (0<=PC (r+1))&&decide (PC (r+1)<=s.size) with
   |true=>some (.normal,.yld,.box 0 0,.str (s.extract 0 (PC (r+1)).toNat),[.cells [.str (s.extract (PC (r+1)).toNat s.size)]],25,true)
   |false=>none
  |false=>none) (some (.normal,.yld,.box 0 0,.str s,[.cells [.str ⟨#[]⟩]],25,true))
def li_M (s:ByteArray):goC (liE liT) (ŭ (liE liT) 10) 168 [] 1 1 liM (liS s .any) liK=aaE s (Lib.indexByte s.data.toList ((10:Int).toNat.toUInt8)):=by kernel_rfl
def li_C (s:ByteArray) (b:Bool):goC (liE liT) (ŭ (liE liT) 10) 168 [] 1 1 liC {(liS s .any) with t:=upd (liS s .any).t 24 (.bool b)} liK=ifb b (some (.ret,.yld,.box 0 0,.any,[.cells [.str s]],25,true)) (some (.normal,.yld,.box 0 0,.any,[.cells [.str s]],25,true)):=by kernel_rfl
noncomputable def liP (k:Nat):String:=match liY with
 | .region _ ops _ => ((ops[k]?).map fun o => o.pos).getD ""
 | _ => ""
def liY_eq:liY=.region 6 #[{dst:=some 21,op:=.move (.tmp 0),type:=233,pos:=liP 0,after:=#[],guard:=none},{dst:=some 22,op:=.move (.tmp 3),type:=9,pos:=liP 1,after:=#[],guard:=none},{dst:=some 23,op:=.call ⟨.value (.tmp 21),#[.tmp 22],#[9]⟩,type:=4,pos:=liP 2,after:=#[⟨0,.data⟩,⟨1,.data⟩],guard:=none},{dst:=some 24,op:=.unOp .not 4 (.tmp 23),type:=4,pos:=liP 3,after:=#[⟨2,.data⟩],guard:=none}] false:=by kernel_rfl
attribute [local go_sem] Oper.semAt_some
set_option maxHeartbeats 1000000 in
def li_Y {l:Nat} {y:ByteArray} {a:Act} {W:World} {R:Ending->World->Prop} {Q:Exit->Act->World->Prop} (h0:a.tmps.getD 0 undef=.func (.yield l) #[] #[]) (h3:a.tmps.getD 3 undef=.string y) (hs:25<=a.tmps.size) (hY:YieldAt Fence.wide 0 Tryz.prog l #[.string y] W R)
 (hR:∀e W',R e W'->∃b,e=.returned (.bool b)/\∀a':Act,a'.defers=a.defers->a'.tmps.size=a.tmps.size->a'.tmps.getD 0 undef=a.tmps.getD 0 undef->a'.tmps.getD 1 undef=a.tmps.getD 1 undef->a'.tmps.getD 24 undef=.bool (!b)->Q .normal a' W'):liY.wpIn Fence.wide 0 Tryz.prog Q a W:=by
 obtain⟨fn,tmps,assign,body,hy,hR2⟩:=hY;obtain⟨T,D⟩:=a;dsimp only at *;rw[liY_eq];rw[Array.getD_eq_getD_getElem?] at h3
 gi_wp2
 rename_i K hK q1;refine⟨rfl,RoundIn.mono (show RoundIn Fence.wide 0 Tryz.prog _ _ _ _ _ _ _ from hR2) fun e W' he=>?_⟩;obtain⟨b,rfl,hb⟩:=hR e W' he;apply hK
 gi_wp2
 refine hb _ rfl (by simp) ?_ ?_ ?_
 ·simp[cE,dc]
 ·simp[cE,dc]
 ·simp[cE,dc,show 24<T.size by omega]
def hmixL:Tryz.prog.follows .mixedOrders=true:=by kernel_rfl
def acH : (Tryz.prog.funcs.toList.all fun fn => !(fn.name == "runtime.NumGoroutine")) = true := by kernel_rfl
def plainL (f : Nat) (fn : Func) (h : Tryz.prog.funcs[f]? = some fn) : (fn.name == "runtime.NumGoroutine") = false := by
 have:=cr.1 acH fn (ci (i:=f) (by simpa using h));simpa using this
def li_lib [É] (b:Ι (liE liT)):uR (liE liT) where
 pure:=fun f p h=>by
  have a:Iu [(169,i7)] f=some p:=h;unfold Iu at a
  split at a
  ·rename_i hb;cases a;obtain rfl:=cd hb;exact xX
  ·cases a
 sort:=fun f h=>by cases h
 compact:=fun f h=>by cases h
 plain:=plainL
 clone:=fun g c=>by cases c
 joins:=Ń rfl
 yld:=b
 ext:=fun f X h=>by cases h
def WO [É] {path:y5 Nat} {fid bid:Nat} {b:LI}:iy (liE liT) path fid bid b:=by
 cases b with
 |lp b=>exact fun m S K r ν a w e=>by cases e
 |rf g ps x y=>exact fun m S K r ν a w e=>by cases e
def ab2 [É]:gN (liE liT) 2 (ŭ (liE liT) 10) :=
 jk (fun {_} b=>li_lib b) (fun L call a=>θ hmixL L call a) (fun n d a _ _ path f fn c _ _ _ z _=>WO) 10 (bX _) (ľ rfl)
def ab1:∀(n i:Nat),lk (List.replicate n AV.any) i=.any
 |0,i=>by cases i<;>rfl
 |n+1,0=>rfl
 |n+1,i+1=>ab1 n i
def adb (s:ByteArray) (i:Nat):lk (liS s .any).t (i+2)=.any:=by
 rcases i with _|_|i
 ·rfl
 ·rfl
 ·exact ab1 21 i
structure Rh (n0 l b0:Nat) (s:ByteArray) (a:Act) (W:World):Prop where
 defers:∃ms:y5 Nat,a.defers=ms.map mk1/\ms.Nodup/\∀k∈ms,W.heap[k]?=some (.deferred (some []))/\n0<=k
 size0:n0<=W.heap.size
 size:25<=a.tmps.size
 t0:a.tmps.getD 0 undef=.func (.yield l) #[] #[]
 t1:a.tmps.getD 1 undef=.pointer (some ⟨b0,0,none⟩)
 box:∃te,W.heap[b0]?=some (.cells #[.string s] te (0,0))
 glob:Globs.Φ W
@[reducible] def Gl (n0 l:Nat):É:=⟨fun _=>False,[],none,n0,l,0,.unit,fun _ _ _ _=>False,fun _ _ _ _ _ _ h=>h.elim⟩
def Rh.sim {n0 l b0:Nat} {s:ByteArray} {a:Act} {W:World} (H:Rh n0 l b0 s a W) (c:¬b0<Globs.n):@Sim _ (Gl n0 l) (fun _=>.pointer (some ⟨b0,0,none⟩)) (liS s .any) a W:=by
 letI g:É:=Gl n0 l
 obtain⟨f,hb⟩:=H.box;obtain⟨ms,m1,p,o⟩:=H.defers;refine⟨⟨⟨ms,by rw[m1]; exact(cn _).symm,p,fun k t=>o k t⟩,fun l r=>(by cases r),cG _,H.size0⟩,H.size,fun i=>?_,?_⟩
 ·rcases i with _|_|i
  ·exact H.t0
  ·exact⟨[.str s],b0,rfl,rfl,H.t1⟩
  ·rw[adb]; trivial
 ·refine⟨fun i=>?_,fun i j b hi e _ _=>?_,fun _ h=>h.elim,fun _ _ _ _ h=>h,H.glob,fun b d ⟨i,hi,q⟩=>?_⟩
  ·rcases i with _|i
   ·exact⟨b0,#[.string s],f,rfl,hb,⟨⟨rfl,rfl⟩,trivial⟩⟩
   ·rw[show lkB (liS s .any).h (i+1)=.dead from sL _ _ (Nat.succ_le_succ (cG i))]; trivial
  ·rcases i with _|i
   ·rcases j with _|j
    ·rfl
    ·rw[show lkB (liS s .any).h (j+1)=.dead from sL _ _ (Nat.succ_le_succ (cG j))] at e; cases e
   ·rw[show lkB (liS s .any).h (i+1)=.dead from sL _ _ (Nat.succ_le_succ (cG i))] at hi; cases hi
  ·cases q; exact c d
structure C6 (b0:Nat) (W W':World):Prop where
 size:W.heap.size<=W'.heap.size
 same:∀b,b<W.heap.size->b≠b0->W'.heap[b]?=W.heap[b]?
 os:W'.os=W.os
 tape:W'.tape=W.tape
 output:W'.output=W.output
noncomputable def Gd {n0 l b0:Nat} {S:St} {s s':ByteArray} {a:Act} {W:World} {c:Code} {bid:Nat} {e:Exit} {x:AV} (o:@Sim _ (Gl n0 l) (fun _=>.pointer (some ⟨b0,0,none⟩)) S a W) (A:S.h=[.cells [.str s]]) (N:n0<=W.heap.size) (t:Ñ bid c=[])
 (law:goC (liE liT) (ŭ (liE liT) 10) 168 [] 1 bid c S liK=some (e,.yld,.box 0 0,x,[.cells [.str s']],25,true)) :
 c.wpIn Fence.wide 0 Tryz.prog (fun D v W'=>D=e/\Rh n0 l b0 s' v W'/\(∀y,x=.str y->v.tmps.getD 3 undef=.string y)/\C6 b0 W W') a W:=by
 letI g:É:=Gl n0 l
 have k:=iP (ab2) (θ hmixL _ _ ab2) (path:=[]) rfl c bid S liK (fun _=>.pointer (some ⟨b0,0,none⟩)) a W (by rw[t]; exact fun _ h=>by cases h) law o (by rw[A]; exact bX 1);rw[vx rfl] at k;refine wpIn_mono k fun D v W' ha=>?_;obtain⟨ν',S',f,d,g3,Z,X⟩:=ha;rw[A] at d;have p:=Option.some.inj X;simp only[Prod.mk.injEq] at p;obtain⟨rfl,L,k1,k3,K,Y,_⟩:=p;have j:ν' 0=.pointer (some ⟨b0,0,none⟩):=(d.blk 0 (by decide)).2;have B:=f.heap.blk 0;rw[K] at B;obtain⟨b,c,E,C,h2,V⟩:=B;rw[j] at C;cases C;obtain⟨u,U,T⟩:=V.one;have R:u=.string s':=T.1
 have Q:c=#[.string s']:=by rw[<-cD,U,R]
 rw[Q] at h2;have t0:=f.tmps 0;rw[L] at t0;have t1:=f.tmps 1;rw[k1] at t1;obtain⟨_,b',_,z,G⟩:=t1;rw[j] at z;cases z;obtain⟨⟨ms,m1,J,H⟩,_⟩:=f.defers;have q:=f.tmps 3;rw[k3] at q;refine⟨rfl,⟨⟨ms,m1.trans (cn _),J,H⟩,by have:=d.size; omega,by have:=f.len; omega,t0,G,⟨E,h2⟩,f.heap.glob⟩,fun y M=>by rw[M] at q; exact q,⟨d.size,fun b hb r=>(d.keep b hb ?_).1,d.os,d.tape,d.output⟩⟩;rintro⟨i,hi,O⟩;cases O;exact r rfl
noncomputable def vm {n0 l b0:Nat} {s s':ByteArray} {a:Act} {W:World} {c:Code} {bid:Nat} {e:Exit} {x:AV} (d:¬b0<Globs.n) (b:Ñ bid c=[])
 (law:goC (liE liT) (ŭ (liE liT) 10) 168 [] 1 bid c (liS s .any) liK=some (e,.yld,.box 0 0,x,[.cells [.str s']],25,true)) (H:Rh n0 l b0 s a W) :
 c.wpIn Fence.wide 0 Tryz.prog (fun g f W'=>g=e/\Rh n0 l b0 s' f W'/\(∀y,x=.str y->f.tmps.getD 3 undef=.string y)/\C6 b0 W W') a W :=
 Gd (H.sim d) rfl H.size0 b law
def JK {n:Nat} {s:ByteArray} (h:s.size=0):mm n s=[]:=by
 cases n with
 |zero=>rfl
 |succ n=>unfold mm; rw[if_pos h]
def Rh.sim24 {n0 l b0:Nat} {s:ByteArray} {a:Act} {W:World} {b:Bool} (H:Rh n0 l b0 s a W) (d:¬b0<Globs.n) (hb:a.tmps.getD 24 undef=.bool b):@Sim _ (Gl n0 l) (fun _=>.pointer (some ⟨b0,0,none⟩)) {(liS s .any) with t:=upd (liS s .any).t 24 (.bool b)} a W:=by
 letI g:É:=Gl n0 l
 have c:=H.sim d;refine⟨c.defers,?_,fun i=>?_,c.heap⟩
 ·show(upd (liS s .any).t 24 (.bool b)).length<=_;rw[BU]; exact c.len
 ·show VR _ _ _ (lk (upd (liS s .any).t 24 (.bool b)) i) _;rw[SG]
  split
  ·rename_i hi;rw[hi.1]; exact hb
  ·exact c.tmps i
def Xj:Ñ 0 li0=[]:=by kernel_rfl
def loopsR:Ñ 1 liR=[]:=by kernel_rfl
def abZ:Ñ 1 liM=[]:=by kernel_rfl
def ab0:Ñ 1 liC=[]:=by kernel_rfl
def res82:Tryz.f168.results=#[]:=by kernel_rfl
noncomputable def C6.trans {b0:Nat} {A B C:World} (h:C6 b0 A B) (k:C6 b0 B C):C6 b0 A C :=
 ⟨cg h.size k.size,fun b hb a=>(k.same b (cf hb h.size) a).trans (h.same b hb a),k.os.trans h.os,k.tape.trans h.tape,k.output.trans h.output⟩
noncomputable def liL:Code:=.seq li0 (.block 1 (.seq liR (.seq liM (.seq liY liC))))
structure LiI (n0 l b0:Nat) (I:y5 ByteArray->World->Prop) (Ix:World->Prop):Prop where
 gn:¬b0<Globs.n
 phi:∀rest W,I rest W->Globs.Φ W
 phx:∀W,Ix W->Globs.Φ W
 hI:∀rest W W' v,I rest W->W.heap.size<=W'.heap.size->(∀b,b<W.heap.size->b≠b0->W'.heap[b]?=W.heap[b]?\/(n0<=b/\∃ds:x9 (y5 Deferred),W.heap[b]?=some (.deferred ds)))->(∃te,W'.heap[b0]?=some (.cells #[v] te (0,0)))->W'.os=W.os->W'.tape=W.tape->W'.output=W.output->I rest W'
 hIx:∀W W' v,Ix W->W.heap.size<=W'.heap.size->(∀b,b<W.heap.size->b≠b0->W'.heap[b]?=W.heap[b]?\/(n0<=b/\∃ds:x9 (y5 Deferred),W.heap[b]?=some (.deferred ds)))->(∃te,W'.heap[b0]?=some (.cells #[v] te (0,0)))->W'.os=W.os->W'.tape=W.tape->W'.output=W.output->Ix W'
 hY:∀y rest W v,I (y::rest) W->(∃te,W.heap[b0]?=some (.cells #[v] te (0,0)))->YieldAt Fence.wide 0 Tryz.prog l #[.string y] W fun e W'=>W.heap.size<=W'.heap.size/\W'.heap[b0]?=W.heap[b0]?/\(∀(k:Nat) (ds:x9 (y5 Deferred)),W.heap[k]?=some (.deferred ds)->W'.heap[k]?=some (.deferred ds))/\((e=.returned (.bool true)/\I rest W')\/(e=.returned (.bool false)/\Ix W'))
section
variable {n0 l b0:Nat} {I:y5 ByteArray->World->Prop} {Ix:World->Prop}
abbrev LiR (b0:Nat) (I:y5 ByteArray->World->Prop) (Ix:World->Prop) (e:Ending) (W':World):Prop:=∃u s',e=.returned u/\(∃te,W'.heap[b0]?=some (.cells #[.string s'] te (0,0)))/\(I [] W'\/Ix W')
abbrev LiQ (b0:Nat) (I:y5 ByteArray->World->Prop) (Ix:World->Prop):Exit->Act->World->Prop:=bodyPostM Fence.wide 0 Tryz.prog Tryz.f168 (LiR b0 I Ix)
noncomputable def LiI.stepI (h:LiI n0 l b0 I Ix) {rest:y5 ByteArray} {s':ByteArray} {a:Act} {W W':World} (hI:I rest W) (k:C6 b0 W W') (H:Rh n0 l b0 s' a W'):I rest W' :=
 h.hI rest W W' _ hI k.size (fun b hb c=>.inl (k.same b hb c)) H.box k.os k.tape k.output
def LiI.stepX (h:LiI n0 l b0 I Ix) {s':ByteArray} {a:Act} {W W':World} (hI:Ix W) (k:C6 b0 W W') (H:Rh n0 l b0 s' a W'):Ix W' :=
 h.hIx W W' _ hI k.size (fun b hb c=>.inl (k.same b hb c)) H.box k.os k.tape k.output
def XB (h:LiI n0 l b0 I Ix) {s:ByteArray} {a:Act} {W:World} (H:Rh n0 l b0 s a W) (i:I [] W\/Ix W):LeavesInM Fence.wide 0 Tryz.prog Tryz.f168 a.tmps (LiR b0 I Ix) a.defers .returning W:=by
 obtain⟨ms,m1,v,g⟩:=H.defers;obtain⟨f,hb⟩:=H.box;rw[m1];refine jv ms W v (fun k x=>(g k x).1) fun W' u t r p o=>?_
 have j:b0∉ms:=fun e=>by
  have:=(g b0 e).1;rw[hb] at this; cases this
 have d:∀b,b<W.heap.size->b≠b0->W'.heap[b]?=W.heap[b]?\/(n0<=b/\∃y:x9 (y5 Deferred),W.heap[b]?=some (.deferred y)):=fun b _ _=>by
  by_cases e:b∈ms
  ·exact .inr ⟨(g b e).2,_,(g b e).1⟩
  ·exact .inl (o b e)
 have c:W'.heap[b0]?=some (.cells #[.string s] f (0,0)):=(o b0 j).trans hb;refine⟨_,results_none res82 _ _ _,_,s,rfl,⟨f,c⟩,?_⟩;rcases i with q|q
 ·exact .inl (h.hI _ W W' _ q (ez u.symm) d ⟨f,c⟩ t r p)
 ·exact .inr (h.hIx W W' _ q (ez u.symm) d ⟨f,c⟩ t r p)
def UQ:(⟨#[]⟩:ByteArray).size=0:=rfl
noncomputable def Xz (h:LiI n0 l b0 I Ix) {n m:Nat} {s y:ByteArray} {a:Act} {W:World} (K:s.size<=n) (M:Ú s.size=true) (H:Rh n0 l b0 s a W) (J:a.tmps.getD 3 undef=.string y) (hI:I (y::mm n s) W)
 (G:∀(b:Act) (W':World),Rh n0 l b0 s b W'->I (mm n s) W'->Code.roundsIn Fence.wide 0 Tryz.prog liL (Exit.inBlock 0 (LiQ b0 I Ix)) m b W') :
 (Code.seq liY liC).wpIn Fence.wide 0 Tryz.prog (Exit.inBlock 1 (Exit.then (Code.roundsIn Fence.wide 0 Tryz.prog liL (Exit.inBlock 0 (LiQ b0 I Ix)) m) (Exit.inBlock 0 (LiQ b0 I Ix)))) a W:=by
 apply wpIn_seq;obtain⟨v,hb⟩:=H.box;refine li_Y H.t0 J H.size (h.hY y _ W _ hI ⟨v,hb⟩) fun e W' d=>?_;obtain⟨L,t,hd,r⟩:=d
 have j:∀b:Act,b.defers=a.defers->b.tmps.size=a.tmps.size->b.tmps.getD 0 undef=a.tmps.getD 0 undef->b.tmps.getD 1 undef=a.tmps.getD 1 undef->Globs.Φ W'->Rh n0 l b0 s b W':=fun b i c g f p=>by
  obtain⟨ms,m1,E,z⟩:=H.defers;exact⟨⟨ms,i.trans m1,E,fun k B=>⟨hd k _ (z k B).1,(z k B).2⟩⟩,cg H.size0 L,by rw[c]; exact H.size,g.trans H.t0,f.trans H.t1,⟨v,t.trans hb⟩,p⟩
 rcases r with⟨rfl,q⟩|⟨rfl,q⟩
 ·refine⟨true,rfl,fun b i c g f u=>?_⟩;have A:=j b i c g f (h.phi _ _ q);have:=Gd (e:=.normal) (x:=.any) (s':=s) (A.sim24 h.gn u) rfl A.size0 ab0 (li_C s false);refine wpIn_mono this fun c C D ⟨d,o,_,k2⟩=>?_;subst d;exact G C D o (h.stepI q k2 o)
 ·refine⟨false,rfl,fun b i c g f u=>?_⟩;have A:=j b i c g f (h.phx _ q);have:=Gd (e:=.ret) (x:=.any) (s':=s) (A.sim24 h.gn u) rfl A.size0 ab0 (li_C s true);refine wpIn_mono this fun c C D ⟨d,o,_,k2⟩=>?_;subst d;exact XB h o (.inr (h.stepX q k2 o))
def adi {s:ByteArray} {c:UInt8} (h:0<=Lib.indexByte s.data.toList c):∃k:Nat,Lib.indexByte s.data.toList c=k/\k<s.size:=by
 obtain⟨k,a⟩:=fV h;refine⟨k,a,?_⟩;have:=(Lib.indexByte_some a).1;have h2:=(ca.1 this).1;simpa using h2
def aco {n:Int} (h0:0<=n) (a:n<=4294967297):PC n=n:=by
 show IntKind.i64.wrap n=n;rw[IntKind.wrap_i64]; omega
def XA (h:LiI n0 l b0 I Ix):∀(n:Nat) (s:ByteArray) (a:Act) (W:World),s.size<=n->Ú s.size=true->Rh n0 l b0 s a W->I (mm n s) W->Code.roundsIn Fence.wide 0 Tryz.prog liL (Exit.inBlock 0 (LiQ b0 I Ix)) (n+1) a W:=by
 intro n
 induction n with
 |zero =>
  intro s a W D i H hI
  have f:s.size=0:=by omega
  rw[roundsIn_succ];apply wpIn_seq;have law:=li_0 s;rw[show igt (DX s.size) 0=false by rw[jb,f]; rfl] at law;refine wpIn_mono (vm (e:=.exit 0) (x:=.any) (s':=s) h.gn Xj law H) fun e j W' ⟨c,p,_,k⟩=>?_;subst c;exact XB h p (.inl (h.stepI hI k p))
 |succ n y =>
  intro s a W D i H hI;rw[roundsIn_succ];apply wpIn_seq
  by_cases f:s.size=0
  ·have law:=li_0 s;rw[show igt (DX s.size) 0=false by rw[jb,f]; rfl] at law;rw[JK f] at hI;refine wpIn_mono (vm (e:=.exit 0) (x:=.any) (s':=s) h.gn Xj law H) fun e j W' ⟨c,p,_,k⟩=>?_;subst c;exact XB h p (.inl (h.stepI hI k p))
  ·have law:=li_0 s
   have v:igt (DX s.size) 0=true:=by
    rw[jb];exact decide_eq_true (by omega)
   rw[v] at law;refine wpIn_mono (vm (e:=.normal) (x:=.any) (s':=s) h.gn Xj law H) fun e M O ⟨c,K,_,k1⟩=>?_;subst c;apply wpIn_block;apply wpIn_seq;refine wpIn_mono (vm (e:=.normal) (x:=.str ⟨#[]⟩) (s':=s) h.gn loopsR (li_R s) K) fun e L N ⟨c,B,_,k2⟩=>?_;subst c;apply wpIn_seq;have b:=li_M s;have z:s.size<=4294967296:=of_decide_eq_true i;unfold mm at hI;rw[if_neg f] at hI;change goC (liE liT) (ŭ (liE liT) 10) 168 [] 1 1 liM (liS s .any) liK=aaE s (Lib.indexByte s.data.toList 10) at b
   by_cases r:0<=Lib.indexByte s.data.toList 10
   ·rw[if_pos r] at hI;obtain⟨k,G,E⟩:=adi r;rw[G] at b hI;unfold aaE at b;have C:PC ((k:Int)+1)=(k:Int)+1:=aco (by omega) (by omega);rw[C,show ige (k:Int) 0=true from decide_eq_true (by omega),show(decide (0<=(k:Int)+1)&&decide ((k:Int)+1<=s.size))=true by simp; omega] at b
    have g:(s.extract ((k:Int)+1).toNat s.size).size<=n:=by
     rw[ByteArray.size_extract]; omega
    have d:Ú (s.extract ((k:Int)+1).toNat s.size).size=true:=decide_eq_true (by rw[ByteArray.size_extract]; omega);refine wpIn_mono (vm (e:=.normal) (x:=.str (s.extract 0 ((k:Int)+1).toNat)) (s':=s.extract ((k:Int)+1).toNat s.size) h.gn abZ b B) fun e a3 J ⟨c,o,t,k3⟩=>?_;subst c;exact Xz h g d o (t _ rfl) (h.stepI hI (k1.trans (k2.trans k3)) o) fun j W' A q=>y _ j W' g d A q
   ·rw[if_neg r] at hI;unfold aaE at b;rw[show ige (Lib.indexByte s.data.toList 10) 0=false from decide_eq_false r] at b;have u:mm n ⟨#[]⟩=[]:=JK UQ;refine wpIn_mono (vm (e:=.normal) (x:=.str s) (s':=⟨#[]⟩) h.gn abZ b B) fun e a3 J ⟨c,o,t,k3⟩=>?_;subst c;exact Xz h (n:=n) (Nat.zero_le _) rfl o (t _ rfl) (by rw[u]; exact h.stepI hI (k1.trans (k2.trans k3)) o) fun j W' A q=>y _ j W' (Nat.zero_le _) rfl A q
end
def nt168:Tryz.f168.ntmps=25:=by kernel_rfl
def XQ:Tryz.prog.funcs[168]?=some Tryz.f168:=by kernel_rfl
def aaC {N:Nat} (c:N=25) {l b0:Nat} {s:ByteArray} {w:World} (hb:∃b,w.heap[b0]?=some (.cells #[.string s] b (0,0))) (a:Globs.Φ w) :
 Rh w.heap.size l b0 s {tmps:=#[.func (.yield l) #[] #[],.pointer (some ⟨b0,0,none⟩)]++Array.replicate (N-(#[.func (.yield l) #[] #[],.pointer (some ⟨b0,0,none⟩)]:Array Value).size) undef,defers:=[]} w:=by
 subst c;exact⟨⟨[],rfl,dT,fun _ h=>by cases h⟩,bX _,by simp,by simp[cE],by simp[cE],hb,a⟩
def aaD {P:Program} {f:Nat} {fn:Func} {c:Code} {args:Array Value} {w:World} {R:Ending->World->Prop} (a:P.funcs[f]?=some fn) (hb:fn.body=some c)
 (h:c.wpIn Fence.wide 0 P (bodyPostM Fence.wide 0 P fn R) {tmps:=args++Array.replicate (fn.ntmps-args.size) undef,defers:=[]} w):CallsIn Fence.wide 0 P f args w R :=
 callsIn_of_wp_marks a hb trivial h
def aaz:Mh Tryz.prog 168 w8 where
 ok:=fun s l b0 I Ix w c a b d hI hIx hY h0 hb=>by
  have h:LiI w.heap.size l b0 I Ix:=⟨d,a,b,hI,hIx,hY⟩;have A:=aaC nt168 (l:=l) hb (a _ _ h0)
  have W:liB.wpIn Fence.wide 0 Tryz.prog (LiQ b0 I Ix) {tmps:=#[.func (.yield l) #[] #[],.pointer (some ⟨b0,0,none⟩)]++Array.replicate (Tryz.f168.ntmps-(#[.func (.yield l) #[] #[],.pointer (some ⟨b0,0,none⟩)]:Array Value).size) undef,defers:=[]} w:=by
   rw[liB_eq];apply wpIn_block;apply wpIn_loop_rounds (s.size+1);exact XA h s.size s _ w (bX _) c A h0
  exact⟨⟨_,_,XQ,ab3⟩,aaD XQ ab3 W⟩
end Go.Proofs.ZzM
end

noncomputable section
set_option maxRecDepth 100000
namespace Go.Proofs.ZzM
open Go Go.Am
def o9:ZP 68 jH:=zt (iE _) Ä rfl (Á pT (Á pS Ä)) fun x=>by kernel_rfl
def Fo:∀e∈BD,Þ Tryz.prog e.1 e.2:=(Á o9 Ä)
def Ql {ρ:Type}:∀e∈xG ρ,e.Ok (ő ρ):=(Á KY (Á KZ (Á KX (Á KW (Á KV (Á KU Ä))))))
def CG {ρ:Type}:∀e∈oy ρ,e.Ok (ė ρ):=(Á HW (Á HV (Á HU Ä)))
def vK:ZP 113 pL:=zt (N7 _) Ä rfl Ä fun x=>by kernel_rfl
def kR:ZP 234 jn:=zt (N3 _) Ä rfl Ä fun x=>by kernel_rfl
def Hg:ZP 185 yJ:=zt (Qu _) (Á kR Ä) rfl Ä fun x=>by kernel_rfl
def Tt:ZP 282 KA:=zt (Ut _) Ä rfl Ä fun x=>by kernel_rfl
def YQ:ZP 283 P5:=zt (NZ _) Ä rfl (Á K8 Ä) fun x=>by kernel_rfl
def A8:ZP 233 yF:=zt (Qs _) (Á Tt (Á YQ Ä)) rfl Ä fun x=>by kernel_rfl
def Q0:ZP 183 EQ:=zt (Aj _) (Á vK (Á Hg (Á A8 (Á kR Ä)))) rfl Ä fun x=>FU x some
def Hj:ZP 114 tK:=zt (qr _) (Á Q0 Ä) rfl (Á uh Ä) fun x=>by kernel_rfl
def Hc:ZP 115 xw:=zt (zS _) Ä rfl (Á BK Ä) fun x=>by kernel_rfl
def Ci:ZP 285 pI:=zt (nD _) Ä rfl (Á qZ Ä) fun x=>by kernel_rfl
def mo:ZP 239 iB:=zt (sV _) (Á Ci Ä) rfl Ä fun x=>by kernel_rfl
def Tu:ZP 190 KB:=zt (BP _) (Á mo Ä) rfl (Á Ij (Á Ii Ä)) fun x=>by kernel_rfl
def Hf:ZP 117 yI:=zt (xM _) (Á Tu Ä) rfl (Á FR (Á FS Ä)) fun x=>by kernel_rfl
def pC:ZP 186 kU:=zt (Dy _) Ä rfl Ä fun x=>by kernel_rfl
def QZ:ZP 184 P7:=zt (La _) (Á Hg (Á pC Ä)) rfl Ä fun x=>by kernel_rfl
def L3:ZP 188 KC:=zt (jQ _) (Á vK (Á pC (Á kR Ä))) rfl (Á xP (Á xO Ä)) fun x=>BQ x some
def Vc:ZP 203 Ja:=zt (CT _) (Á kR Ä) rfl (Á DA Ä) fun x=>by kernel_rfl
def L2:ZP 204 DU:=zt (BO _) (Á mo Ä) rfl (Á Ih (Á Ig Ä)) fun x=>by kernel_rfl
def abq:ZP 238 RX:=zt (JC _) (Á kR Ä) rfl (Á Ik Ä) fun x=>by kernel_rfl
def DJ:ZP 189 De:=zt (ł _) (Á o9 (Á vK (Á Hg (Á pC (Á Vc (Á L2 (Á kR (Á abq Ä)))))))) rfl (Á sZ (Á sX (Á sY (Á sW Ä)))) fun x=>vR x some
end Go.Proofs.ZzM
end

noncomputable section
namespace Go.Proofs
open Go.RowKit
attribute [local go_sem] Oper.semAt_some
noncomputable def Hz (a:Nat->Bool) (k:Nat):y5 Nat:=(List.range k).filter a
def yl (a:Nat->Bool) (k:Nat):Hz a (k+1)=if a k then Hz a k++[k] else Hz a k:=by
 unfold Hz;rw[List.range_succ,List.filter_append]
 cases h:a k<;>simp[h]
def PS (a:Nat->Bool) (k:Nat):(Hz a k).length<=k:=by
 unfold Hz;exact Nat.le_trans (List.length_filter_le _ _) (by simp)
def V1 (a:Nat->Bool) {j k:Nat} (h:j<=k):(Hz a j).length<=(Hz a k).length:=by
 obtain⟨d,rfl⟩:∃d,k=j+d:=⟨k-j,by omega⟩;unfold Hz;rw[List.range_add,List.filter_append,List.length_append];omega
def acx {a:Nat->Bool} {k n:Nat} (h:k<n) (c:a k=true):(Hz a k).length<(Hz a n).length:=by
 have b:=V1 a (j:=k+1) (k:=n) h;rw[yl,c] at b;simp at b;omega
set_option maxRecDepth 100000 in
set_option maxHeartbeats 1000000 in
def adc (te:TypeId) (n:Nat) (hn:1<=n) (l bb tb:Nat) (flo fhi us lo co ko:Value) (gb go len cap:Nat) (gbase:x9 Addr) (hgb:0<len->gbase=some ⟨gb,go,none⟩)
 (c0 c1 c2 c3 c4 c5 c6 c7:Nat->Int) (sel:Nat->Bool) (hlen:(len:Int)<9223372036854775807) (Nd:World->Prop)
 (W:World) (hb0:W.heap[bb]?=some (.cells #[flo,fhi,.slice gbase len cap,us,lo,co,ko] te (0,0)))
 (hNc:∀W',Nd W'->∀j,j<len->W'.cell? ⟨gb,go+j*8,none⟩=some (.int .i64 (c0 j))/\W'.cell? ⟨gb,go+j*8+1,none⟩=some (.int .i64 (c1 j))/\W'.cell? ⟨gb,go+j*8+2,none⟩=some (.int .i64 (c2 j))/\W'.cell? ⟨gb,go+j*8+3,none⟩=some (.int .i64 (c3 j)) /\
  W'.cell? ⟨gb,go+j*8+4,none⟩=some (.int .i64 (c4 j))/\W'.cell? ⟨gb,go+j*8+5,none⟩=some (.int .i64 (c5 j))/\W'.cell? ⟨gb,go+j*8+6,none⟩=some (.int .i64 (c6 j))/\W'.cell? ⟨gb,go+j*8+7,none⟩=some (.int .i64 (c7 j)))
 (hNm:∀W',Nd W'->∃mv,∀W'',W'.grownBy W'' none->W''.cell? ⟨tb,0,none⟩=some mv/\∀j,j<len->(Instr.lookup 177 mv (.int .i64 (c0 j)) false).run Tryz.prog W''=.ok (.bool (sel j)) W'')
 (hNs:∀W1 W2,Nd W1->W1.grownBy W2 none->Nd W2) (hN:Nd W)
 (J Jx:y5 Nat->World->Prop) (hJ:∀pre W W',J pre W->W.grownBy W' none->J pre W') (hJx:∀pre W W',Jx pre W->W.grownBy W' none->Jx pre W')
 (hY:∀pre x W,J pre W->pre.length<(Hz sel len).length->YieldAt Fence.wide (n-1) Tryz.prog l #[.agg #[.int .i64 (c0 x),.int .i64 (c1 x),.int .i64 (c2 x),.int .i64 (c3 x),.int .i64 (c4 x),.int .i64 (c5 x),.int .i64 (c6 x),.int .i64 (c7 x)]] W fun e W' =>
  (e=.returned (.bool true)/\J (pre++[x]) W'/\(Nd W->Nd W'))\/(e=.returned (.bool false)/\Jx (pre++[x]) W'))
 (h0 : J [] W) :
  CallsIn Fence.wide n Tryz.prog 182 #[.func (.yield l) #[] #[],.pointer (some ⟨bb,0,none⟩),.pointer (some ⟨tb,0,none⟩)] W fun e W'=>(∃v,e=.returned v) /\
   ((∃xs,xs=Hz sel len/\J xs W')\/(∃pre,True/\Jx pre W')):=by
 have hb3:W.cell? ⟨bb,2,none⟩=some (.slice gbase len cap):=by simp[World.cell?,hb0]
 refine callsIn_of_wp Tryz.func182 rfl trivial ?_ rfl;simp only[Tryz.ntmps182,ee,cj,cz,Nat.reduceAdd,Nat.reduceSub,Array.replicate_succ,Array.replicate_zero,List.push_toArray,fO,dL,dw]
 gi_wp2
 gi_loopw [9] (fun i wr=>∃k:Nat,k<=len/\i=.int .i64 k/\J (Hz sel k) wr/\Nd wr)
  (fun i _=>len-(intOf i).toNat)
 case atStart=>exact⟨0,cG _,rfl,h0,hN⟩
 case round =>
  obtain⟨k,hk,rfl,hJs,hNw⟩:=hrel
  by_cases hlt:k<len
  ·have hg:=hgb (by omega);subst hg;obtain⟨q0,q1,q2,q3,q4,q5,q6,q7⟩:=hNc _ hNw k hlt;obtain⟨mv,hmv⟩:=hNm _ hNw;have hta:∀o,(wr.alloc o).cell? ⟨tb,0,none⟩=some mv:=fun o=>(hmv _ (World.grownBy_alloc _ o none)).1;have hlk:∀o,(Instr.lookup 177 mv (.int .i64 (c0 k)) false).run Tryz.prog (wr.alloc o)=.ok (.bool (sel k)) (wr.alloc o):=fun o=>(hmv _ (World.grownBy_alloc _ o none)).2 k hlt;have hNa:∀o,Nd (wr.alloc o):=fun o=>hNs _ _ hNw (World.grownBy_alloc _ o none);have hJa:∀o,J (Hz sel k) (wr.alloc o):=fun o=>hJ _ _ _ hJs (World.grownBy_alloc _ o none);clear hmv hNm hNc
   cases hsel:sel k with
   |false =>
    rw[hsel] at hlk
    iterate 52 (first|go_values|gi_guarded|gi_step|gi_upon)
    refine⟨fun f hf=>by simp[undef,go_sem] at hf,?_⟩
    gi_wp2
    go_roundw
    case rel=>exact⟨k+1,by omega,by simp,by rw[yl,hsel]; exact hJa _,hNa _⟩
    case measure=>simp[intOf]; omega
   |true =>
    rw[hsel] at hlk
    gi_wp2
    obtain⟨fn,tmps,assign,body,hy,hR⟩:=hY (Hz sel k) k (wr.alloc (.cells #[.int .i64 (c0 k),.int .i64 (c1 k),.int .i64 (c2 k),.int .i64 (c3 k),.int .i64 (c4 k),.int .i64 (c5 k),.int .i64 (c6 k),.int .i64 (c7 k)] 73)) (hJa _) (acx hlt hsel);rw[hy];refine⟨fun h=>(by cases h),hR.mono ?_⟩;rintro e W3 (⟨rfl,hJ3,hk3⟩|⟨rfl,hJx3⟩)
    ·gi_wp2
     go_roundw
     case rel=>exact⟨k+1,by omega,by simp,by rw[yl,hsel]; exact hJ3,hk3 (hNa _)⟩
     case measure=>simp[intOf]; omega
    ·gi_wp2
     refine bodyPost_ret (results_none rfl _ _ _) rfl ?_;exact⟨⟨_,rfl⟩,.inr ⟨_,trivial,hJx3⟩⟩
  ·obtain rfl:len=k:=by omega
   gi_wp2
   go_end0
   exact⟨⟨_,rfl⟩,.inl ⟨_,rfl,hJs⟩⟩
end Go.Proofs
end

noncomputable section
namespace Go.Proofs
open Go.RowKit
attribute [local go_sem] Oper.semAt_some
noncomputable def upE (f:Nat->Int) (k:Nat):y5 Int:=(List.range k).map f
def oe (f:Nat->Int) (k:Nat):upE f (k+1)=upE f k++[f k]:=by simp[upE,List.range_succ]
def uT (f:Nat->Int) (k:Nat):(upE f k).length=k:=by simp[upE]
def DL (f:Nat->Int) {j k:Nat} (h:j<=k):upE f j <+: upE f k:=by
 have:k=j+(k-j):=by omega
 rw[this,upE,upE,List.range_add,fu];exact dG _ _
set_option maxRecDepth 100000 in
set_option maxHeartbeats 1000000 in
noncomputable def aab (te:TypeId) (n:Nat) (hn:1<=n) (l n₀ bb tb sb:Nat) (flo fhi ga mv:Value) (hbb:bb<n₀) (htb:tb<n₀) (hsb:sb<n₀)
 (ub uo ul uc kb ko kl kc:Nat) (ubase kbase lbase cbase:x9 Addr) (ll lc cl cc:Nat) (hub:0<ul->ubase=some ⟨ub,uo,none⟩/\ub<n₀) (hkb:0<kl->kbase=some ⟨kb,ko,none⟩/\kb<n₀)
 (U K:Nat->Int×Int) (eU eL eC eK:Nat->Int)
 (hul:ul<=1000) (hll:ll<=1000) (hcl:cl<=1000) (hkl:kl<=1000)
 (W:World) (hb0:W.heap[bb]?=some (.cells #[flo,fhi,ga,.slice ubase ul uc,.slice lbase ll lc,.slice cbase cl cc,.slice kbase kl kc] te (0,0)))
 (ht:W.cell? ⟨tb,0,none⟩=some (.func (.func 184) #[] #[.pointer (some ⟨sb,0,none⟩)])) (hs:W.cell? ⟨sb,0,none⟩=some mv)
 (hU:∀j,j<ul->W.cell? ⟨ub,uo+j*2,none⟩=some (.int .i64 (U j).1)/\W.cell? ⟨ub,uo+j*2+1,none⟩=some (.int .i64 (U j).2))
 (hK:∀j,j<kl->W.cell? ⟨kb,ko+j*2,none⟩=some (.int .i64 (K j).1)/\W.cell? ⟨kb,ko+j*2+1,none⟩=some (.int .i64 (K j).2))
 (cU:∀j,j<ul->∀W',Below n₀ W W'->CallsIn Fence.wide (n-1) Tryz.prog 184 #[.int .i64 (U j).1,.int .i64 (U j).2,.pointer (some ⟨sb,0,none⟩)] W' fun e W''=>e=.returned (.int .i64 (eU j))/\W'.grownBy W'' none)
 (cK:∀j,j<kl->∀W',Below n₀ W W'->CallsIn Fence.wide (n-1) Tryz.prog 184 #[.int .i64 (K j).1,.int .i64 (K j).2,.pointer (some ⟨sb,0,none⟩)] W' fun e W''=>e=.returned (.int .i64 (eK j))/\W'.grownBy W'' none)
 (cL:∀j,j<ll->∀W',Below n₀ W W'->CallsIn Fence.wide (n-1) Tryz.prog 188 #[.agg #[flo,fhi,ga,.slice ubase ul uc,.slice lbase ll lc,.slice cbase cl cc,.slice kbase kl kc],mv,.int .i64 j] W' fun e W''=>e=.returned (.int .i64 (eL j))/\W'.grownBy W'' none)
 (cC:∀j,j<cl->∀W',Below n₀ W W'->CallsIn Fence.wide (n-1) Tryz.prog 189 #[.agg #[flo,fhi,ga,.slice ubase ul uc,.slice lbase ll lc,.slice cbase cl cc,.slice kbase kl kc],mv,.int .i64 j] W' fun e W''=>e=.returned (.int .i64 (eC j))/\W'.grownBy W'' none)
 (J Jx:y5 Int->World->Prop) (hJ:∀pre W W',J pre W->W.grownBy W' none->J pre W') (hJx:∀pre W W',Jx pre W->W.grownBy W' none->Jx pre W')
 (hY:∀pre x W,J pre W->pre.length<ul+(ll+(cl+kl))->YieldAt Fence.wide (n-1) Tryz.prog l #[.int .i64 x] W fun e W' =>
  (e=.returned (.bool true)/\J (pre++[x]) W'/\Below n₀ W W')\/(e=.returned (.bool false)/\Jx (pre++[x]) W'))
 (h0 : J [] W) (hn₀ : n₀ <= W.heap.size) :
  CallsIn Fence.wide n Tryz.prog 187 #[.func (.yield l) #[] #[],.pointer (some ⟨bb,0,none⟩),.pointer (some ⟨tb,0,none⟩),.pointer (some ⟨sb,0,none⟩)] W fun e W'=>(∃v,e=.returned v) /\
   ((∃xs,xs=upE eU ul++(upE eL ll++(upE eC cl++upE eK kl))/\J xs W')\/(∃pre,(pre <+: upE eU ul++(upE eL ll++(upE eC cl++upE eK kl)))/\Jx pre W')):=by
 have grown_alloc:∀(X:World) (o:Obj),X.grownBy (X.alloc o) none:=fun X o=>World.grownBy_alloc X o none
 have bel:∀{X Y:World},Below n₀ W X->X.grownBy Y none->Below n₀ W Y:=fun {X Y} h g =>
  ⟨g.os.trans h.os,g.tape.trans h.tape,g.output.trans h.output,cg h.size g.size,fun k hk=>(g.block k (cf (cf hk hn₀) h.size) (by simp)).trans (h.block k hk)⟩
 have hc:∀{X:World},Below n₀ W X->X.heap[bb]?=some (.cells #[flo,fhi,ga,.slice ubase ul uc,.slice lbase ll lc,.slice cbase cl cc,.slice kbase kl kc] te (0,0)):=fun h=>(h.block bb hbb).trans hb0;refine callsIn_of_wp Tryz.func187 rfl trivial ?_ rfl;simp only[Tryz.ntmps187,ee,cj,cz,Nat.reduceAdd,Nat.reduceSub,Array.replicate_succ,Array.replicate_zero,List.push_toArray,fO,dL,dw]
 have hb3:W.cell? ⟨bb,3,none⟩=some (.slice ubase ul uc):=by simp[World.cell?,hb0]
 gi_wp2
 gi_loopw [14] (fun i wr=>∃k:Nat,k<=ul/\i=.int .i64 k/\J (upE eU k) wr/\Below n₀ W wr)
  (fun i _=>ul-(intOf i).toNat)
 case atStart=>exact⟨0,cG _,rfl,h0,Below.refl _ _⟩
 case round =>
  obtain⟨k,hk,rfl,hJs,hnx⟩:=hrel
  by_cases hlt:k<ul
  ·obtain⟨rfl,hlu⟩:=hub (by omega);have hu1:=(hnx.cell (p:=⟨ub,uo+k*2,none⟩) hlu).trans (hU k hlt).1;have hu2:=(hnx.cell (p:=⟨ub,uo+k*2+1,none⟩) hlu).trans (hU k hlt).2;have ht':=(hnx.cell (p:=⟨tb,0,none⟩) htb).trans ht;have hta:∀o,(wr.alloc o).cell? ⟨tb,0,none⟩=some (.func (.func 184) #[] #[.pointer (some ⟨sb,0,none⟩)]):=fun o=>Lib.cell?_alloc_some _ ht'
   gi_wp2
   refine⟨trivial,(cU k hlt _ (bel hnx (grown_alloc _ _))).mono ?_⟩;rintro e W2 ⟨rfl,hg2⟩;obtain⟨fn,tmps,assign,body,hy,hR⟩:=hY _ (eU k) W2 (hJ _ _ _ (hJ _ _ _ hJs (grown_alloc _ _)) hg2) (by rw[uT]; omega);have hb2:=bel (bel hnx (grown_alloc _ _)) hg2
   gi_wp2
   refine hR.mono ?_;rintro e W3 (⟨rfl,hJ3,hk3⟩|⟨rfl,hJx3⟩)
   ·gi_wp2
    go_roundw
    case rel=>exact⟨k+1,by omega,by simp,by rw[oe]; exact hJ3,hb2.trans hk3⟩
    case measure=>simp[intOf]; omega
   ·gi_wp2
    refine bodyPost_ret (results_none rfl _ _ _) rfl ?_;refine⟨⟨_,rfl⟩,.inr ⟨_,?_,hJx3⟩⟩;rw[<-oe];exact(DL eU (by omega)).trans (dG _ _)
  ·obtain rfl:ul=k:=by omega
   have hb4:wr.cell? ⟨bb,4,none⟩=some (.slice lbase ll lc):=by simp[World.cell?,hc hnx]
   gi_wp2
   gi_loopw [31] (fun i wr=>∃k:Nat,k<=ll/\i=.int .i64 k/\J (upE eU ul++upE eL k) wr/\Below n₀ W wr)
    (fun i _=>ll-(intOf i).toNat)
   case atStart=>exact⟨0,cG _,rfl,by simpa[upE] using hJs,hnx⟩
   case round =>
    clear hJs hnx;obtain⟨k,hk,rfl,hJs,hnx⟩:=hrel
    by_cases hlt:k<ll
    ·have q0:wr.cell? ⟨bb,0,none⟩=some flo:=by simp[World.cell?,hc hnx]
     have q1:wr.cell? ⟨bb,1,none⟩=some fhi:=by simp[World.cell?,hc hnx]
     have q2:wr.cell? ⟨bb,2,none⟩=some ga:=by simp[World.cell?,hc hnx]
     have q3:wr.cell? ⟨bb,3,none⟩=some (.slice ubase ul uc):=by simp[World.cell?,hc hnx]
     have q4:wr.cell? ⟨bb,4,none⟩=some (.slice lbase ll lc):=by simp[World.cell?,hc hnx]
     have q5:wr.cell? ⟨bb,5,none⟩=some (.slice cbase cl cc):=by simp[World.cell?,hc hnx]
     have q6:wr.cell? ⟨bb,6,none⟩=some (.slice kbase kl kc):=by simp[World.cell?,hc hnx]
     have hs':=(hnx.cell (p:=⟨sb,0,none⟩) hsb).trans hs
     gi_wp2
     refine⟨trivial,(cL k hlt _ hnx).mono ?_⟩;rintro e W2 ⟨rfl,hg2⟩;obtain⟨fn,tmps,assign,body,hy,hR⟩:=hY _ (eL k) W2 (hJ _ _ _ hJs hg2) (by simp only[b7,uT]; omega);have hb2:=bel hnx hg2
     gi_wp2
     refine hR.mono ?_;rintro e W3 (⟨rfl,hJ3,hk3⟩|⟨rfl,hJx3⟩)
     ·gi_wp2
      go_roundw
      case rel=>exact⟨k+1,by omega,by simp,by rw[oe,<-cq]; exact hJ3,hb2.trans hk3⟩
      case measure=>simp[intOf]; omega
     ·gi_wp2
      refine bodyPost_ret (results_none rfl _ _ _) rfl ?_;refine⟨⟨_,rfl⟩,.inr ⟨_,?_,hJx3⟩⟩;rw[cq,<-oe];exact(dS _).2 ((DL eL (by omega)).trans (dG _ _))
    ·obtain rfl:ll=k:=by omega
     have hb5:wr.cell? ⟨bb,5,none⟩=some (.slice cbase cl cc):=by simp[World.cell?,hc hnx]
     gi_wp2
     gi_loopw [45] (fun i wr=>∃k:Nat,k<=cl/\i=.int .i64 k/\J (upE eU ul++upE eL ll++upE eC k) wr/\Below n₀ W wr)
      (fun i _=>cl-(intOf i).toNat)
     case atStart=>exact⟨0,cG _,rfl,by simpa[upE] using hJs,hnx⟩
     case round =>
      clear hJs hnx;obtain⟨k,hk,rfl,hJs,hnx⟩:=hrel
      by_cases hlt:k<cl
      ·have q0:wr.cell? ⟨bb,0,none⟩=some flo:=by simp[World.cell?,hc hnx]
       have q1:wr.cell? ⟨bb,1,none⟩=some fhi:=by simp[World.cell?,hc hnx]
       have q2:wr.cell? ⟨bb,2,none⟩=some ga:=by simp[World.cell?,hc hnx]
       have q3:wr.cell? ⟨bb,3,none⟩=some (.slice ubase ul uc):=by simp[World.cell?,hc hnx]
       have q4:wr.cell? ⟨bb,4,none⟩=some (.slice lbase ll lc):=by simp[World.cell?,hc hnx]
       have q5:wr.cell? ⟨bb,5,none⟩=some (.slice cbase cl cc):=by simp[World.cell?,hc hnx]
       have q6:wr.cell? ⟨bb,6,none⟩=some (.slice kbase kl kc):=by simp[World.cell?,hc hnx]
       have hs':=(hnx.cell (p:=⟨sb,0,none⟩) hsb).trans hs
       gi_wp2
       refine⟨trivial,(cC k hlt _ hnx).mono ?_⟩;rintro e W2 ⟨rfl,hg2⟩;obtain⟨fn,tmps,assign,body,hy,hR⟩:=hY _ (eC k) W2 (hJ _ _ _ hJs hg2) (by simp only[b7,uT]; omega);have hb2:=bel hnx hg2
       gi_wp2
       refine hR.mono ?_;rintro e W3 (⟨rfl,hJ3,hk3⟩|⟨rfl,hJx3⟩)
       ·gi_wp2
        go_roundw
        case rel=>exact⟨k+1,by omega,by simp,by rw[oe,<-cq]; exact hJ3,hb2.trans hk3⟩
        case measure=>simp[intOf]; omega
       ·gi_wp2
        refine bodyPost_ret (results_none rfl _ _ _) rfl ?_;refine⟨⟨_,rfl⟩,.inr ⟨_,?_,hJx3⟩⟩;rw[cq,<-oe]
        exact by rw[cq]; exact(dS _).2 ((dS _).2 ((DL eC (by omega)).trans (dG _ _)))
      ·obtain rfl:cl=k:=by omega
       have hb6:wr.cell? ⟨bb,6,none⟩=some (.slice kbase kl kc):=by simp[World.cell?,hc hnx]
       gi_wp2
       gi_loopw [59] (fun i wr=>∃k:Nat,k<=kl/\i=.int .i64 k/\J ((upE eU ul++upE eL ll++upE eC cl)++upE eK k) wr/\Below n₀ W wr)
        (fun i _=>kl-(intOf i).toNat)
       case atStart=>exact⟨0,cG _,rfl,by simpa[upE] using hJs,hnx⟩
       case round =>
        clear hJs hnx;obtain⟨k,hk,rfl,hJs,hnx⟩:=hrel
        by_cases hlt:k<kl
        ·obtain⟨rfl,hlk⟩:=hkb (by omega);have hu1:=(hnx.cell (p:=⟨kb,ko+k*2,none⟩) hlk).trans (hK k hlt).1;have hu2:=(hnx.cell (p:=⟨kb,ko+k*2+1,none⟩) hlk).trans (hK k hlt).2;have ht':=(hnx.cell (p:=⟨tb,0,none⟩) htb).trans ht;have hta:∀o,(wr.alloc o).cell? ⟨tb,0,none⟩=some (.func (.func 184) #[] #[.pointer (some ⟨sb,0,none⟩)]):=fun o=>Lib.cell?_alloc_some _ ht'
         gi_wp2
         refine⟨trivial,(cK k hlt _ (bel hnx (grown_alloc _ _))).mono ?_⟩;rintro e W2 ⟨rfl,hg2⟩;obtain⟨fn,tmps,assign,body,hy,hR⟩:=hY _ (eK k) W2 (hJ _ _ _ (hJ _ _ _ hJs (grown_alloc _ _)) hg2) (by simp only[b7,uT]; omega);have hb2:=bel (bel hnx (grown_alloc _ _)) hg2
         gi_wp2
         refine hR.mono ?_;rintro e W3 (⟨rfl,hJ3,hk3⟩|⟨rfl,hJx3⟩)
         ·gi_wp2
          go_roundw
          case rel=>exact⟨k+1,by omega,by simp,by rw[oe,<-cq]; exact hJ3,hb2.trans hk3⟩
          case measure=>simp[intOf]; omega
         ·gi_wp2
          refine bodyPost_ret (results_none rfl _ _ _) rfl ?_;refine⟨⟨_,rfl⟩,.inr ⟨_,?_,hJx3⟩⟩;rw[cq,<-oe,cq,cq];exact(dS _).2 ((dS _).2 ((dS _).2 (DL eK (by omega))))
        ·obtain rfl:kl=k:=by omega
         gi_wp2
         go_end0
         exact⟨⟨_,rfl⟩,.inl ⟨_,rfl,by simpa[cq] using hJs⟩⟩
end Go.Proofs
end

noncomputable section
set_option maxRecDepth 100000
namespace Go.Proofs.ZzM
open Go Go.Am Go.RowKit
def RG (p:String):Code:=.region 10 #[{dst:=some 5,op:=.assign (.tmp 49),type:=38,pos:=p,after:=#[],guard:=none}] false
def abS (q r:String):Code:=.block 1 (.seq (.region 11 #[{dst:=some 50,op:=.move (.tmp 5),type:=38,pos:=q,after:=#[],guard:=none},{dst:=some 51,op:=.binOp .neq 38 (.tmp 50) (.const (.int .i64 0)) 38,type:=4,pos:=q,after:=#[{on:=0,ground:=.data}],guard:=none}] false)
 (.cond (.tmp 51) (.seq (.region 12 #[{dst:=some 52,op:=.move (.tmp 5),type:=38,pos:=r,after:=#[],guard:=none},{dst:=none,op:=.store 38 (.tmp 2) (.tmp 52),type:=0,pos:=r,after:=#[{on:=0,ground:=.data},{on:=0,ground:=.phase}],guard:=none}] false) .ret) .skip))
section
variable {P:Program} {F:Fence} {n:Nat}
def yL {b:Array Oper} {i d:Nat} {o:Oper} {u:Value} {w w':World} {a:Act} {next:Act->World->Prop} {Q:Exit->Act->World->Prop} (r:∀f,F.fn f) (p:b[i]?=some o) (q:o.guard=none) (hd:o.dst=some d) (g:∀c,o.op≠.defer c)
 (e:(execOp a.eval o).run P w=.ok (.value u) w') (k:next (a.put (some d) u) w'):wpOpIn F n P b Q i next a w:=by
 unfold wpOpIn;rw[p]
 have j:Region.wanted o (yielded b a.tmps)=true:=by simp[Region.wanted,q]
 simp only[j,if_true];refine⟨fun _ _=>r _,?_⟩;rw[Oper.semAt_eq _ _ _ g,e];rw[<-hd] at k;exact k
def Uf {b:Array Oper} {i:Nat} {o:Oper} {w w':World} {a:Act} {next:Act->World->Prop} {Q:Exit->Act->World->Prop} (q:∀f,F.fn f) (j:b[i]?=some o) (p:o.guard=none) (hd:o.dst=none) (e:∀c,o.op≠.defer c)
 (d:(execOp a.eval o).run P w=.ok .skip w') (k:next a w'):wpOpIn F n P b Q i next a w:=by
 unfold wpOpIn;rw[j]
 have g:Region.wanted o (yielded b a.tmps)=true:=by simp[Region.wanted,p]
 simp only[g,if_true];refine⟨fun _ _=>q _,?_⟩;rw[Oper.semAt_eq _ _ _ e,d];show next (a.put o.dst undef) w';rw[hd];exact k
end
def ik (T:Array Value) (i j:Nat) (v:Value):(T.setIfInBounds i v).getD j undef=if i=j/\i<T.size then v else T.getD j undef:=by
 simp only[cE,dc]
 by_cases h:i=j
 ·subst h
  by_cases h2:i<T.size
  ·simp[h2]
  ·simp[h2]
 ·simp[h]
noncomputable def abY (D:Nat):Deferred:={target:=.collected D,args:=#[]}
structure Put1 (n₀ rb:Nat) (x:Int) (w W:World):Prop where
 os:W.os=w.os
 tape:W.tape=w.tape
 output:W.output=w.output
 size:w.heap.size<=W.heap.size
 block:∀k,k<n₀->k≠rb->W.heap[k]?=w.heap[k]?
 cell:∃e,W.heap[rb]?=some (.cells #[.int .i64 x] e (0,0))
set_option maxHeartbeats 4000000 in
def acC {a:Act} {w:World} {Q:Exit->Act->World->Prop} {lb:Array Value} {L:y5 Int} {rb:Nat} {e0:TypeId} {v0:Value} {p q r:String}
 (U:SeqStopsK Fence.wide 1 Tryz.prog 187 lb (fun x:Int=>#[.int .i64 x]) (Below w.heap.size) (fun xs=>xs=L) (fun i=>i <+: L) L.length w)
 (hg:a.tmps.getD 48 undef=.func (.func 187) #[] lb) (h2:a.tmps.getD 2 undef=.pointer (some ⟨rb,0,none⟩)) (hsz:78<=a.tmps.size)
 (X:w.heap[rb]?=some (.cells #[v0] e0 (0,0)))
 (A:∀D W,(∀x∈L,x=0)->Below w.heap.size w W->w.heap.size<=D->W.heap[D]?=some (.deferred (some []))->Q .normal {a with defers:=abY D::a.defers} W)
 (z:∀D W x,L.find? (fun e=>e != 0)=some x->Put1 w.heap.size rb x w W->w.heap.size<=D->W.heap[D]?=some (.deferred (some []))->Q .ret {a with defers:=abY D::a.defers} W) :
 (Code.rangeFunc (.tmp 48) #[49] (RG p) (abS q r)).wpIn Fence.wide 2 Tryz.prog Q a w:=by
 have Z:∀f,Fence.wide.fn f:=fun _=>trivial;have V:=Ù X
 refine wpIn_rangeFunc_ownF (α:=Int) (encs:=fun x=>#[.int .i64 x]) (Kp:=Below w.heap.size) (S:=fun xs=>xs=L) (Sp:=fun i=>i <+: L) (N:=L.length) (w0:=w) rfl (by omega) hg trivial (fun args w=>?eg) U
  (fun h k=>h.trans k) (fun W l o o' hl ho hc hw=>belowK_b (bX _) W l o o' hl ho hc hw) (Below.refl _ _) (fun _=>rfl)
  (fun i W=>(∀x∈i,x=0)/\Below w.heap.size w W)
  (fun c i W=>c=.ret/\∃j x,i=j++[x]/\(∀x∈j,x=0)/\x≠0/\Put1 w.heap.size rb x w W)
  ?hI ?hIx ⟨by simp,Below.refl _ _⟩ (fun x=>{tmps:=(a.tmps.setIfInBounds 49 (.int .i64 x)).setIfInBounds 5 (.int .i64 x),defers:=[]}) ?hassign ?hbody ?A ?z
 case eg=>simp[callFunc,Sem.run_bind,run_program,Result.andThen_ok,Tryz.func187,plain 187 _ Tryz.func187,show Tryz.f187.body.isNone=false from rfl]; rfl
 case hI =>
  intro s W W' row ⟨G,h2⟩ g hr;exact⟨G,g.os.trans h2.os,g.tape.trans h2.tape,g.output.trans h2.output,cg h2.size g.size,fun k B=>(g.block k (cf B h2.size) (fun e=>by have:=(hr k e.symm).1; omega)).trans (h2.block k B)⟩
 case hIx =>
  intro c s W W' row ⟨G,j,x,h3,h4,h5,E⟩ g hr;have hb:∀k,k<w.heap.size->W'.heap[k]?=W.heap[k]?:=fun k B=>g.block k (cf B E.size) (fun e=>by have:=(hr k e.symm).1; omega)
  exact⟨G,j,x,h3,h4,h5,g.os.trans E.os,g.tape.trans E.tape,g.output.trans E.output,cg E.size g.size,fun k B H=>(hb k B).trans (E.block k B H),by
   obtain⟨e,he⟩:=E.cell
   exact⟨e,(hb rb V).trans he⟩⟩
 case hassign =>
  intro l x W K hK
  have hf:((#[49]:Array Tmp).zip #[Value.int .i64 x]).foldl (fun t (p,v)=>t.setIfInBounds p v) a.tmps=a.tmps.setIfInBounds 49 (.int .i64 x):=by simp
  rw[hf];refine wpIn_region ?_;rw[show ∀o:Oper,List.range (#[o]:Array Oper).size=[0] from fun _=>rfl,wpOpsIn_cons];refine yL (d:=5) (u:=.int .i64 x) (w':=W) Z rfl rfl rfl (by simp) ?_ hK;show Result.ok (Next.value ((a.tmps.setIfInBounds 49 (.int .i64 x)).getD 49 undef)) W=_;rw[ik,if_pos ⟨rfl,by omega⟩]
 case hbody =>
  intro l i x W ⟨G,hbel⟩ hpre;refine wpIn_block (wpIn_seq (wpIn_region ?_));rw[show ∀o p:Oper,List.range (#[o,p]:Array Oper).size=[0,1] from fun _ _=>rfl,wpOpsIn_cons]
  refine yL (d:=50) (u:=.int .i64 x) (w':=W) Z rfl rfl rfl (by simp) (by
   show Result.ok (Next.value (((a.tmps.setIfInBounds 49 (.int .i64 x)).setIfInBounds 5 (.int .i64 x)).getD 5 undef)) W=_
   rw[ik,if_pos ⟨rfl,by simp; omega⟩]) ?_
  rw[wpOpsIn_cons]
  refine yL (d:=51) (u:=.bool (x != 0)) (w':=W) Z rfl rfl rfl (by simp) (by
   show((do let u <-(do eqGuard .neq 38 (.tmp 50) (.const (.int .i64 0)) ((((a.tmps.setIfInBounds 49 (.int .i64 x)).setIfInBounds 5 (.int .i64 x)).setIfInBounds 50 (.int .i64 x)).getD 50 undef) (.int .i64 0); binOp .neq 38 ((((a.tmps.setIfInBounds 49 (.int .i64 x)).setIfInBounds 5 (.int .i64 x)).setIfInBounds 50 (.int .i64 x)).getD 50 undef) (.int .i64 0)); pure (.value u)):Sem Next).run Tryz.prog W=_;rw[ik,if_pos ⟨rfl,by simp; omega⟩]
   simp[eqGuard,binOp,Op.intCmp]) ?_
  show Code.wpIn (Fence.wide.inRound l) (2-1-1) Tryz.prog (Code.cond (.tmp 51) _ .skip) _ {tmps:=((((a.tmps.setIfInBounds 49 (.int .i64 x)).setIfInBounds 5 (.int .i64 x)).setIfInBounds 50 (.int .i64 x)).setIfInBounds 51 (.bool (x != 0))),defers:=[]} W;obtain⟨T,C⟩:∃T,T=((((a.tmps.setIfInBounds 49 (.int .i64 x)).setIfInBounds 5 (.int .i64 x)).setIfInBounds 50 (.int .i64 x)).setIfInBounds 51 (.bool (x != 0))):=⟨_,rfl⟩;rw[<-C]
  have O:T.getD 51 undef=.bool (x != 0):=by rw[C,ik,if_pos ⟨rfl,by simp; omega⟩]
  have t5:T.getD 5 undef=.int .i64 x:=by rw[C,ik,if_neg (by simp),ik,if_neg (by simp),ik,if_pos ⟨rfl,by simp; omega⟩]
  have t2:T.getD 2 undef=.pointer (some ⟨rb,0,none⟩):=by rw[C,ik,if_neg (by simp),ik,if_neg (by simp),ik,if_neg (by simp),ik,if_neg (by simp),h2]
  have tsz:78<=T.size:=by rw[C]; simpa using hsz
  clear C
  by_cases hx:x=0
  ·have M:Act.eval {tmps:=T,defers:=[]} (.tmp 51)=.bool false:=O.trans (by simp[hx]);refine wpIn_cond_false M (wpIn_skip ?_);simp only[Exit.inBlock,ownPostK];exact⟨KeepsOthers.refl _,Below.refl _ _,fun y hy=>(b8.1 hy).elim (G y) (fun h=>by rw[ce] at h; rw[h,hx]),hbel⟩
  ·have M:Act.eval {tmps:=T,defers:=[]} (.tmp 51)=.bool true:=O.trans (by simp[hx]);refine wpIn_cond_true M (wpIn_seq (wpIn_region ?_));rw[show ∀o p:Oper,List.range (#[o,p]:Array Oper).size=[0,1] from fun _ _=>rfl,wpOpsIn_cons]
   have e5:(execOp (Act.eval {tmps:=T,defers:=[]}) {dst:=some 52,op:=.move (.tmp 5),type:=38,pos:=r,after:=#[],guard:=none}).run Tryz.prog W=.ok (.value (.int .i64 x)) W:=by
    show Result.ok (Next.value (T.getD 5 undef)) W=_;rw[t5]
   refine yL (d:=52) (u:=.int .i64 x) (w':=W) Z rfl rfl rfl (by simp) e5 ?_;rw[wpOpsIn_cons];have hW:W.heap[rb]?=some (.cells #[v0] e0 (0,0)):=(hbel.block rb V).trans X
   letI:É:=(Gk (fun _=>False) [] (none))
   have hst:=oi (P:=Tryz.prog) (w:=W) (t:=38) (u:=.int .i64 x) (n:=1) (b:=rb) (o:=0) (by kernel_rfl) rfl hW (by simp) (by simp[Value.cells,Value.oneCell'])
   have R:(storeVar 38 ⟨rb,0,none⟩ (.int .i64 x)).run Tryz.prog W=.ok () (W.setRow rb #[.int .i64 x]):=by simpa[Value.cells] using hst
   have t52:(T.setIfInBounds 52 (.int .i64 x)).getD 52 undef=.int .i64 x:=by rw[ik,if_pos ⟨rfl,by omega⟩]
   have t2':(T.setIfInBounds 52 (.int .i64 x)).getD 2 undef=.pointer (some ⟨rb,0,none⟩):=by rw[ik,if_neg (by simp),t2]
   have e6:(execOp (Act.eval {tmps:=T.setIfInBounds 52 (.int .i64 x),defers:=[]}) {dst:=none,op:=.store 38 (.tmp 2) (.tmp 52),type:=0,pos:=r,after:=#[{on:=0,ground:=.data},{on:=0,ground:=.phase}],guard:=none}).run Tryz.prog W=.ok .skip (W.setRow rb #[.int .i64 x]):=by
    show((do Instr.storeAt 38 ((T.setIfInBounds 52 (.int .i64 x)).getD 2 undef) ((T.setIfInBounds 52 (.int .i64 x)).getD 52 undef); pure .skip):Sem Next).run Tryz.prog W=_;rw[t52,t2'];simp[Instr.storeAt,Instr.sureAddr,R]
   refine Uf (w':=W.setRow rb #[.int .i64 x]) Z rfl rfl rfl (by simp) e6 ?_;refine wpIn_ret ?_;simp only[Exit.inBlock,ownPostK];refine⟨⟨by simp,fun k o B ho=>?_⟩,trivial,i,x,rfl,G,hx,hbel.os,hbel.tape,hbel.output,by simpa using hbel.size,fun k B H=>(setRow_other _ _ _ _ H).trans (hbel.block k B),⟨_,setRow_heap _ _ _ _ _ _ hW⟩⟩
   by_cases Y:k=rb
   ·subst Y; rw[hW] at B; cases B; simp[Obj.isCells] at ho
   ·rw[setRow_other _ _ _ _ Y]; exact B
 case A =>
  intro D xs W hD hS ⟨G,hbel⟩ J;subst hS;exact A D W G hbel hD J
 case z =>
  intro D c i W hD hS ⟨hc,j,x,h3,h4,h5,E⟩ J;subst hc;refine wpIn_ret (z D W x ?_ E hD J);obtain⟨t,rfl⟩:=hS;rw[h3,cq,List.find?_append]
  have:List.find? (fun e=>e != 0) j=none:=eD.2 fun y hy=>by simp[h4 y hy]
  rw[this];simp[h5]
end Go.Proofs.ZzM
end

noncomputable section
set_option maxRecDepth 100000
namespace Go.Proofs.ZzM
open Go Go.Am Go.RowKit
noncomputable def fstC:Code->Code
 |.seq a _=>a
 |c=>c
noncomputable def sndC:Code->Code
 |.seq _ b=>b
 |c=>c
noncomputable def WN:Nat->Code->Code
 |0,c=>fstC c
 |n+1,c=>WN n (sndC c)
noncomputable def aaX:Nat->Code->Code
 |0,c=>c
 |n+1,c=>aaX n (sndC c)
noncomputable def ckB:Code:=Tryz.f55.body.getD .skip
noncomputable def ckA5:Code:=fstC (aaX 5 ckB |> fstC)
noncomputable def ckRF:Code:=sndC (aaX 5 ckB |> fstC)
noncomputable def J4:Code:=sndC (aaX 5 ckB)
noncomputable def ckPre:Code:=.seq (WN 0 ckB) (.seq (WN 1 ckB) (.seq (WN 2 ckB) (.seq (WN 3 ckB) (.seq (WN 4 ckB) ckA5))))
def ach:Tryz.f55.body=some (.seq (WN 0 ckB) (.seq (WN 1 ckB) (.seq (WN 2 ckB) (.seq (WN 3 ckB) (.seq (WN 4 ckB) (.seq (.seq ckA5 ckRF) J4)))))):=by kernel_rfl
noncomputable def ck_pt:y5 (Nat×Č):=[(117,yI),(115,xw),(113,pL),(114,tK)]
noncomputable def ckE (ρ:Type):Env ρ:=ê ck_pt []
abbrev ckR:Type:=Int ⊕ (y5 AV×y5 Blk)
noncomputable def YC (S:St):x9 Int:=match jE Tryz.prog Tryz.f55 S with
 |some v=>T4 [tI] S.h v
 |none=>none
noncomputable def ckK (e:Exit) (S:St):x9 ckR:=match e with
 |.ret=>match YC S with
  |some n=>some (.inl n)
  |none=>none
 |.normal=>match decide (78<=S.t.length) with
  |true=>some (.inr ([lk S.t 1,lk S.t 2,lk S.t 48],S.h))
  |false=>none
 |_=>none
noncomputable def ckH (x:bl) (s:ge) (n:Int):y5 Blk :=
 [.cells (flat Å x),.cells [.int .i64 n],.cells (flat Å x),.cells [.mp tI Ê s],.cells [.fn (.func 184) [] [.box 3 0]]]
noncomputable def ckM (x:bl):x9 ckR :=
 Ã (š x.1 (0:Int) (1000000:Int)) fun c=>ifb (!c) (some (.inl 1)) (ifb (igt (Û x.2.1) (12:Int)) (some (.inl 2)) (ifb (igt (Û x.2.2.1) (40:Int)) (some (.inl 2)) (ifb (igt (Û x.2.2.2.1) (12:Int)) (some (.inl 2)) (ifb (igt (Û x.2.2.2.2.1) (40:Int)) (some (.inl 2)) (ifb (igt (Û x.2.2.2.2.2) (10:Int)) (some (.inl 2))
  (Ã (ŗ x) fun a=>ifb (ine a (0:Int)) (some (.inl a)) (Ã (Ŭ x) fun b=>some (.inr ([.box 0 0,.box 1 0,.fn (.func 187) [] [.box 2 0,.box 4 0,.box 3 0]],ckH x b 0)))))))))
def ck_pre (x:bl):goC (ckE ckR) (ŭ (ckE ckR) 10) 55 [] 0 0 ckPre {t:=Ee [Å] x++List.replicate 77 .any,h:=[]} ckK=ckM x:=by kernel_rfl
noncomputable def abc (ρ:Type):Env ρ:={ckE ρ with inl:=fun _=>false}
noncomputable def ckS (x:bl):x9 Int :=
 Ã (nY x) fun c=>ifb (igt (Û c) (59:Int)) (some (2:Int)) (ck ((2:Int)*(Û x.2.1)) fun g=>ck ((Û c)-(Û x.2.1)) fun f=>ck ((2:Int)*f) fun e=>ck (g+e) fun d=>ck ((2:Int)*(Û x.2.2.2.2.1)) fun b=>ck (d+b) fun a=>ifb (igt a (300:Int)) (some (2:Int)) (some (0:Int)))
noncomputable def ckK2 (e:Exit) (S:St):x9 Int:=match e with
 |.ret=>match lk S.t 2 with
  |.box 1 0=>match lkB S.h 1 with
   |.cells [.int .i64 n]=>some n
   |_=>none
  |_=>none
 |_=>none
def ck_suf (x:bl) (s:ge):goC (abc Int) (ŭ (abc Int) 10) 55 [] 0 0 J4 {t:=[.any,.box 0 0,.box 1 0]++List.replicate 75 .any,h:=ckH x s 0} ckK2=ckS x:=by kernel_rfl
def abb (x:bl):Ā x=match ckM x with
 |none=>none
 |some (.inl n)=>some n
 |some (.inr _)=>Ã (Ŭ x) fun s=>MY (lP x s) some (ckS x):=by
 unfold Ā F6 ckM ckS
 cases š x.1 (0:Int) (1000000:Int) with
 |none=>rfl
 |some b =>
 cases b with
 |false=>rfl
 |true =>
 simp only[Ã,ifb,dj]
 cases igt (Û x.2.1) (12:Int) with
 |true=>rfl
 |false =>
 cases igt (Û x.2.2.1) (40:Int) with
 |true=>rfl
 |false =>
 cases igt (Û x.2.2.2.1) (12:Int) with
 |true=>rfl
 |false =>
 cases igt (Û x.2.2.2.2.1) (40:Int) with
 |true=>rfl
 |false =>
 cases igt (Û x.2.2.2.2.2) (10:Int) with
 |true=>rfl
 |false =>
 cases ŗ x with
 |none=>rfl
 |some a =>
 simp only
 cases ine a (0:Int) with
 |true=>rfl
 |false =>
 cases Ŭ x with
 |none=>rfl
 |some c=>rfl
def adI {x:bl} {q:y5 AV×y5 Blk} (h:ckM x=some (.inr q)):((x.2.2.1:y5 an).length<=1000/\(x.2.2.2.1:y5 qs).length<=1000/\(x.2.2.2.2.1:y5 js).length<=1000/\(x.2.2.2.2.2:y5 an).length<=1000) /\
 ∃s,Ŭ x=some s/\q=([.box 0 0,.box 1 0,.fn (.func 187) [] [.box 2 0,.box 4 0,.box 3 0]],ckH x s 0):=by
 unfold ckM at h
 cases h0:š x.1 (0:Int) (1000000:Int) with
 |none=>rw[h0] at h; cases h
 |some k =>
 rw[h0] at h
 cases k with
 |false=>cases h
 |true =>
 simp only[Ã,ifb,dj] at h
 cases g:igt (Û x.2.1) (12:Int) with
 |true=>rw[g] at h; cases h
 |false =>
 rw[g] at h
 cases h2:igt (Û x.2.2.1) (40:Int) with
 |true=>rw[h2] at h; cases h
 |false =>
 rw[h2] at h
 cases c:igt (Û x.2.2.2.1) (12:Int) with
 |true=>rw[c] at h; cases h
 |false =>
 rw[c] at h
 cases b:igt (Û x.2.2.2.2.1) (40:Int) with
 |true=>rw[b] at h; cases h
 |false =>
 rw[b] at h
 cases a:igt (Û x.2.2.2.2.2) (10:Int) with
 |true=>rw[a] at h; cases h
 |false =>
 rw[a] at h
 cases f:ŗ x with
 |none=>rw[f] at h; cases h
 |some j =>
 rw[f] at h;simp only at h
 cases e:ine j (0:Int) with
 |true=>rw[e] at h; cases h
 |false =>
 rw[e] at h
 cases d:Ŭ x with
 |none=>rw[d] at h; cases h
 |some i =>
 rw[d] at h
 have lt:∀{α:Type} (l:y5 α) (n:Nat),igt (Û l) (n:Int)=false->l.length<=n:=by
  intro α l n h;unfold Û at h;rw[jb] at h;simp only[igt,gt_iff_lt,decide_eq_false_iff_not] at h;omega
 simp only[Option.some.injEq,Sum.inr.injEq] at h;exact⟨⟨by have:=lt x.2.2.1 40 h2; omega,by have:=lt x.2.2.2.1 12 c; omega,by have:=lt x.2.2.2.2.1 40 b; omega,by have:=lt x.2.2.2.2.2 10 a; omega⟩,i,rfl,h.symm⟩
def yT {α β:Type} {f:α->x9 β}:∀{l:y5 α} {m:y5 β},E7 f l=some m->m.length=l.length/\∀(i:Nat) (a:α),l[i]?=some a->∃b,m[i]?=some b/\f a=some b
 |[],m,h=>by cases h; exact⟨rfl,fun i a ha=>by simp at ha⟩
 |a::l,m,h=>by
  unfold E7 at h
  cases ha:f a with
  |none=>rw[ha] at h; cases h
  |some b =>
   rw[ha] at h
   cases d:E7 f l with
   |none=>rw[d] at h; cases h
   |some j =>
    rw[d] at h;cases h;obtain⟨g,h2⟩:=yT d;refine⟨by simp[g],fun i c e=>?_⟩
    cases i with
    |zero=>simp at e; subst e; exact⟨b,by simp,ha⟩
    |succ i=>simpa using h2 i c (by simpa using e)
def DM (l:y5 Int):upE (fun j=>l[j]?.getD 0) l.length=l:=by
 unfold upE;refine List.ext_getElem (by simp) fun i a h2=>?_;simp at a;simp[a]
def CR.below {a:Nat} {w W:World} {av:Nat->Prop} (hb:Below a w W) (d:w.heap.size<=a) {t:Ty} {x:Val t} {vs:y5 Value} (h:CR w av t x vs):CR W av t x vs :=
 h.keep fun b c ha=>⟨hb.block b (cf c d),ha⟩
def Et {w:World} {av:Nat->Prop} {xs:y5 (Int×Int)} {v:Value} (h:CR w av (.slice Â) xs [v]):∃base cap b off,v=.slice base xs.length cap/\(0<xs.length->base=some ⟨b,off,none⟩/\b<w.heap.size) /\
 ∀j,j<xs.length->w.cell? ⟨b,off+j*2,none⟩=some (.int .i64 (xs[j]?.getD (0,0)).1)/\w.cell? ⟨b,off+j*2+1,none⟩=some (.int .i64 (xs[j]?.getD (0,0)).2):=by
 obtain⟨base,cap,e,x,a⟩:=h;cases e;rcases a with a|⟨b,off,hb,g,d,a⟩
 ·refine⟨base,cap,0,0,rfl,fun h=>?_,fun j c=>?_⟩
  ·rw[show xs=[] from a] at h; simp at h
  ·rw[show xs=[] from a] at c; simp at c
 ·refine⟨base,cap,b,off,rfl,fun _=>⟨hb,d⟩,fun j c=>?_⟩;obtain⟨us,o,h2⟩:=a j xs[j] (bY c);obtain⟨u1,f,r,k,i⟩:=o;have q:u1=[.int .i64 xs[j].1]:=k;have p:f=[.int .i64 xs[j].2]:=i;subst q p r;have s:(Â).size=2:=rfl;rw[s] at h2;have u:=h2 0 _ rfl;have t:=h2 1 _ rfl;rw[bY c];exact⟨by simpa using u,by simpa[dR] using t⟩
end Go.Proofs.ZzM
end

noncomputable section
set_option maxRecDepth 100000
namespace Go.Proofs.ZzM
open Go Go.Am Go.RowKit
section
variable {w W W':World}
abbrev noG:Nat->Prop:=fun _=>False
def int_arg (w:World) (n:Int):Ν w noG tI n (.int .i64 n):=⟨[.int .i64 n],rfl,rfl⟩
def ac8 {a:Nat} {b:Value} {e:TypeId} {s:ge} (h:w.heap[a]?=some (.cells #[b] e (0,0))) (c:CR w noG (.map tI Ê) s [b]):Ν w noG (.ptr (.map tI Ê)) s (.pointer (some ⟨a,0,none⟩)):=by
 letI:É:=(Gk (fun _=>False) [] (none))
 exact⟨[.pointer (some ⟨a,0,none⟩)],⟨a,0,[b],rfl,id,Ù h,c,ę.of_cells h⟩,rfl⟩
def acD {y:Int} {u:Value} (h:RR w noG [tI] y u):u=.int .i64 y:=by
 obtain⟨us,a,rfl⟩:=h;have:us=[.int .i64 y]:=a;rw[this]; rfl
def aaK (e:∀b,b<W.heap.size->W'.heap[b]?=W.heap[b]?) (h2:W.heap.size<=W'.heap.size) (d:W'.os=W.os) (c:W'.tape=W.tape) (a:W'.output=W.output):W.grownBy W' none :=
 ⟨d,c,a,h2,fun b hb _=>e b hb⟩
def LS {f:Nat} {p:Č} (b:Globs.Φ W) (g:Þ Tryz.prog f p) (a:p.rs=[tI]) {x:Val (tyL p.ts)} {y:Int} (d:p.F x=some (a▸(show Val (tyL [tI]) from y))) {vals:y5 Value} (ha:AL W noG p.ts x vals) :
 CallsIn Fence.wide 0 Tryz.prog f vals.toArray W fun e c=>e=.returned (.int .i64 y)/\W.grownBy c none:=by
 obtain⟨ts,rs,F⟩:=p;dsimp only at a d ha x;subst a;refine(g noG x y d W vals (fun _ h=>h.elim) b ha).2.mono fun e w' ⟨u,h0,q,h2,o,k,j,i⟩=>⟨?_,aaK h2 o k j i⟩;rw[h0,acD q]
noncomputable def D9 {k:Nat} (h:Globs.Φ w) (hb:Below k w W) (c:w.heap.size<=k):Globs.Φ W :=
 Globs.keep w W h fun b a=>hb.block b (cf (by obtain⟨o,d,_⟩:=Globs.dat w h b a; exact Ù d) c)
def Mp (d:Globs.Φ W) {s:ge} {a b y:Int} (j:ħ a b s=some y) {c:Nat} {g:Value} {e:TypeId} (h:W.heap[c]?=some (.cells #[g] e (0,0))) (i:CR W noG (.map tI Ê) s [g]) :
 CallsIn Fence.wide 0 Tryz.prog 184 #[.int .i64 a,.int .i64 b,.pointer (some ⟨c,0,none⟩)] W fun e f=>e=.returned (.int .i64 y)/\W.grownBy f none :=
 LS d QZ rfl (x:=(a,b,s)) (y:=y) j (vals:=[.int .i64 a,.int .i64 b,.pointer (some ⟨c,0,none⟩)]) ⟨_,_,rfl,int_arg _ _,_,_,rfl,int_arg _ _,_,rfl,ac8 h i⟩
def W5 {a:Value} {s:ge} (b:CR W noG (.map tI Ê) s [a]):Ν W noG (.map tI Ê) s a:=⟨[a],b,rfl⟩
def Tx {x:bl} {cs:Array Value} (hb:CR W noG Å x cs.toList):Ν W noG Å x (.agg cs):=⟨cs.toList,hb,by show Value.agg cs=Value.agg cs.toList.toArray; rw[Array.toArray_toList]⟩
def Xq (b:Globs.Φ W) {x:bl} {s:ge} {i y:Int} (f:Ť x s i=some y) {a:Value} {cs:Array Value} (hb:CR W noG Å x cs.toList) (d:CR W noG (.map tI Ê) s [a]) :
 CallsIn Fence.wide 0 Tryz.prog 188 #[.agg cs,a,.int .i64 i] W fun e c=>e=.returned (.int .i64 y)/\W.grownBy c none :=
 LS b L3 rfl (x:=(x,s,i)) (y:=y) f (vals:=[.agg cs,a,.int .i64 i]) ⟨_,_,rfl,Tx hb,_,_,rfl,W5 d,_,rfl,int_arg _ _⟩
def O3 (b:Globs.Φ W) {x:bl} {s:ge} {i y:Int} (f:ĩ x s i=some y) {a:Value} {cs:Array Value} (hb:CR W noG Å x cs.toList) (d:CR W noG (.map tI Ê) s [a]) :
 CallsIn Fence.wide 0 Tryz.prog 189 #[.agg cs,a,.int .i64 i] W fun e c=>e=.returned (.int .i64 y)/\W.grownBy c none :=
 LS b DJ rfl (x:=(x,s,i)) (y:=y) f (vals:=[.agg cs,a,.int .i64 i]) ⟨_,_,rfl,Tx hb,_,_,rfl,W5 d,_,rfl,int_arg _ _⟩
end
def nq {w:World} {av:Nat->Prop} {t:Ty} {xs:y5 (Val t)} {vs:y5 Value} (h:CR w av (.slice t) xs vs):∃base cap,vs=[.slice base xs.length cap]:=by
 obtain⟨base,cap,e,_⟩:=h;exact⟨base,cap,e⟩
def Z0 {w:World} (C:Globs.Φ w) {x:bl} {s:ge} {H B A G:y5 Int} (h1:E7 (fun u=>ħ u.1 u.2 s) (x.2.2.1:y5 (Int×Int))=some H) (h2:E7 (fun i=>Ť x s i) (ta (x.2.2.2.1:y5 qs).length)=some B)
 (h3:E7 (fun i=>ĩ x s i) (ta (x.2.2.2.2.1:y5 js).length)=some A) (h4:E7 (fun u=>ħ u.1 u.2 s) (x.2.2.2.2.2:y5 (Int×Int))=some G)
 (t:(x.2.2.1:y5 an).length<=1000/\(x.2.2.2.1:y5 qs).length<=1000/\(x.2.2.2.2.1:y5 js).length<=1000/\(x.2.2.2.2.2:y5 an).length<=1000)
 {bb tb T:Nat} {te te2 te3:TypeId} {cb:Array Value} {mv:Value} (hbb:w.heap[bb]?=some (.cells cb te (0,0))) (Q:CR w noG Å x cb.toList) (htb:w.heap[tb]?=some (.cells #[.func (.func 184) #[] #[.pointer (some ⟨T,0,none⟩)]] te2 (0,0)))
 (D:w.heap[T]?=some (.cells #[mv] te3 (0,0))) (E:CR w noG (.map tI Ê) s [mv]) :
 SeqStopsK Fence.wide 1 Tryz.prog 187 #[.pointer (some ⟨bb,0,none⟩),.pointer (some ⟨tb,0,none⟩),.pointer (some ⟨T,0,none⟩)] (fun x:Int=>#[.int .i64 x]) (Below w.heap.size) (fun xs=>xs=H++(B++(A++G))) (fun o=>o <+: (H++(B++(A++G)))) (H++(B++(A++G))).length w:=by
 intro l J Jx W d hJ hJx hY h0;obtain⟨fl,r0,e0,hfl,hr0⟩:=id Q;obtain⟨ga,r1,e1,hga,hr1⟩:=hr0;obtain⟨us,r2,e2,K,hr2⟩:=hr1;obtain⟨lo,r3,e3,hlo,hr3⟩:=hr2;obtain⟨co,ko,e4,hco,M⟩:=hr3;obtain⟨f1,f2,e5,hf1,hf2⟩:=hfl;have e6:f1=[.int .i64 x.1.1]:=hf1;have e7:f2=[.int .i64 x.1.2]:=hf2;obtain⟨gab,gac,e8⟩:=nq hga;obtain⟨Y,X,e9⟩:=nq hlo;obtain⟨cob,coc,e10⟩:=nq hco;obtain⟨usb0,usc0,S⟩:=nq K;obtain⟨kob0,koc0,R⟩:=nq M;rw[S] at K;rw[R] at M;obtain⟨V,U,ub,uo,e13,L,hU⟩:=Et K;obtain⟨kob,Z,kb,kof,e14,N,hK⟩:=Et M;rw[e13] at S;rw[e14] at R
 have O:cb=#[.int .i64 x.1.1,.int .i64 x.1.2,.slice gab (x.2.1:y5 cT).length gac,.slice V (x.2.2.1:y5 an).length U,.slice Y (x.2.2.2.1:y5 qs).length X,.slice cob (x.2.2.2.2.1:y5 js).length coc,.slice kob (x.2.2.2.2.2:y5 an).length Z]:=by
  rw[<-cD,e0,e1,e2,e3,e4,e5,e6,e7,e8,e9,e10,S,R];rfl
 obtain⟨g1,q1⟩:=yT h1;obtain⟨g2,q2⟩:=yT h2;obtain⟨g3,q3⟩:=yT h3;obtain⟨g4,q4⟩:=yT h4
 have gl2:B.length=(x.2.2.2.1:y5 qs).length:=by rw[g2]; simp[ta]
 have gl3:A.length=(x.2.2.2.2.1:y5 js).length:=by rw[g3]; simp[ta]
 have up1:upE (fun j=>H[j]?.getD 0) (x.2.2.1:y5 an).length=H:=by rw[<-g1]; exact DM H
 have up2:upE (fun j=>B[j]?.getD 0) (x.2.2.2.1:y5 qs).length=B:=by rw[<-gl2]; exact DM B
 have up3:upE (fun j=>A[j]?.getD 0) (x.2.2.2.2.1:y5 js).length=A:=by rw[<-gl3]; exact DM A
 have up4:upE (fun j=>G[j]?.getD 0) (x.2.2.2.2.2:y5 an).length=G:=by rw[<-g4]; exact DM G
 have at1:∀{xs:y5 (Int×Int)} {z:y5 Int},(∀(i:Nat) (a:Int×Int),xs[i]?=some a->∃b,z[i]?=some b/\ħ a.1 a.2 s=some b)->∀j,j<xs.length->ħ (xs[j]?.getD (0,0)).1 (xs[j]?.getD (0,0)).2 s=some (z[j]?.getD 0):=by
  intro xs z hq j k;obtain⟨b,hb,hf⟩:=hq j xs[j] (bY k);rw[bY k,hb];exact hf
 have at2:∀{n:Nat} {z:y5 Int} {f:Int->x9 Int},(∀(i:Nat) (a:Int),(ta n)[i]?=some a->∃b,z[i]?=some b/\f a=some b)->∀j,j<n->f (j:Int)=some (z[j]?.getD 0):=by
  intro n z f hq j k;obtain⟨b,hb,hf⟩:=hq j j (by simp[ta,k]);rw[hb]; exact hf
 have c:∀{W':World},Below w.heap.size W W'->Below w.heap.size w W':=fun h=>d.trans h;have g:∀{W':World} {p:Addr} {v:Value},Below w.heap.size w W'->w.cell? p=some v->p.block<w.heap.size->W'.cell? p=some v:=fun {W'} {p} {v} h hc hp=>(h.cell (p:=p) hp).trans hc;have lb:=Ù hbb;have lt:=Ù htb;have z:=Ù D
 have:=aab te 1 (by omega) l w.heap.size bb tb T (.int .i64 x.1.1) (.int .i64 x.1.2) (.slice gab (x.2.1:y5 cT).length gac) mv lb lt z
  ub uo (x.2.2.1:y5 an).length U kb kof (x.2.2.2.2.2:y5 an).length Z V kob Y cob (x.2.2.2.1:y5 qs).length X (x.2.2.2.2.1:y5 js).length coc L N
  (fun j=>(x.2.2.1:y5 (Int×Int))[j]?.getD (0,0)) (fun j=>(x.2.2.2.2.2:y5 (Int×Int))[j]?.getD (0,0)) (fun j=>H[j]?.getD 0) (fun j=>B[j]?.getD 0) (fun j=>A[j]?.getD 0) (fun j=>G[j]?.getD 0)
  t.1 t.2.1 t.2.2.1 t.2.2.2 W ((d.block bb lb).trans (by rw[hbb,O])) (g d (by simp[World.cell?,htb]) lt) (g d (by simp[World.cell?,D]) z)
  (fun j k=>⟨g d (hU j k).1 (L (by omega)).2,g d (hU j k).2 (L (by omega)).2⟩) (fun j k=>⟨g d (hK j k).1 (N (by omega)).2,g d (hK j k).2 (N (by omega)).2⟩)
  (fun j k W' q=>Mp (D9 C (c q) (bX _)) (at1 q1 j k) (((c q).block T z).trans D) (CR.below (c q) (bX _) E))
  (fun j k W' q=>Mp (D9 C (c q) (bX _)) (at1 q4 j k) (((c q).block T z).trans D) (CR.below (c q) (bX _) E))
  (fun j k W' q=>Xq (D9 C (c q) (bX _)) (at2 q2 j k) (by have:=CR.below (c q) (bX _) Q; rwa [O] at this) (CR.below (c q) (bX _) E))
  (fun j k W' q=>O3 (D9 C (c q) (bX _)) (at2 q3 j k) (by have:=CR.below (c q) (bX _) Q; rwa [O] at this) (CR.below (c q) (bX _) E))
  J Jx (fun o W1 W2 k hg=>hJ o W1 W2 none k hg (fun r e=>by cases e)) (fun o W1 W2 k hg=>hJx o W1 W2 none k hg (fun r e=>by cases e))
  (fun o y W1 k hl=>hY o y W1 k (by simp only[b7]; omega)) h0 d.size
 rw[up1,up2,up3,up4] at this;exact this
end Go.Proofs.ZzM
end

noncomputable section
set_option maxRecDepth 100000
namespace Go.Proofs.ZzM
open Go Go.Am Go.RowKit
section
variable [É] {ρ:Type} {ν:Nat->Value} {w:World}
def peel (k:É.Q=none) {E:Env ρ} {call:y5 Nat->Bool->Nat->y5 AV->y5 Blk->(AV->y5 Blk->x9 ρ)->x9 ρ} {L:Nat} (t:gN E L call) (u:kd E L call) (q:E.joins=fun _ _ _ _=>none) {fid:Nat} {path:y5 Nat} (o:path.length+2=L) {x y c:Code} {bid n:Nat} {S:St} {K:Exit->St->x9 ρ} {r:ρ} {a:Act} {Q:Exit->Act->World->Prop}
 (s:∀z∈Ñ bid x,iy E path fid z.1 z.2) (e:goC E call fid path 0 bid (.seq x y) S K=some r) (H:Sim ν S a w)
 (p:∀ν' b d w',Sim ν' b d w'->Ev 0 ν S.h w ν' b.h w'->goC E call fid path 0 bid y b K=some r->c.wpIn Fence.wide n E.P Q d w')
 (i:∀ν' b d w' e,e≠.normal->Sim ν' b d w'->Ev 0 ν S.h w ν' b.h w'->K e b=some r->Q e d w'):(Code.seq x c).wpIn Fence.wide n E.P Q a w:=by
 simp only[goC,q] at e;have j:=iP t u o x bid S _ ν a w s e H (cG _);rw[vx k] at j;refine wpIn_seq (wpIn_wide.2 (wpIn_wide.1 (wpIn_mono j fun v d w' ha=>?_)));obtain⟨ν',b,g,h2,B,A,f⟩:=ha
 cases v with
 |normal=>exact p ν' b d w' g h2 f
 |exit id=>exact i ν' b d w' _ (by simp) g h2 f
 |goto l=>exact i ν' b d w' _ (by simp) g h2 f
 |ret=>exact i ν' b d w' _ (by simp) g h2 f
 |panic ch=>exact i ν' b d w' _ (by simp) g h2 f
 |outgrown=>exact i ν' b d w' _ (by simp) g h2 f
end
def Wd {T:Array Value} {rb:Nat} {n:Int} {e:TypeId} {W:World} (h2:T.getD 2 undef=.pointer (some ⟨rb,0,none⟩)) (f:W.heap[rb]?=some (.cells #[.int .i64 n] e (0,0))):(results Tryz.f55 T).run Tryz.prog W=.ok (.int .i64 n) W:=by
 letI:É:=(Gk (fun _=>False) [] (none))
 have d:(loadVar 38 ⟨rb,0,none⟩).run Tryz.prog W=.ok (.int .i64 n) W:=by
  have:=qP (P:=Tryz.prog) (w:=W) (t:=38) (agg:=false) (n:=1) (by kernel_rfl) (us:=[.int .i64 n]) rfl (fun _=>rfl) (a:=⟨rb,0,none⟩) (fun j v b=>by
   have:=ę.of_cells f j v (by simpa using b)
   cases j with
   |zero=>simpa[Addr.add] using this
   |succ j=>simp at b)
  exact this
 have c:Tryz.f55.results=#[.cell 2 38]:=by kernel_rfl
 unfold results;rw[c,Array.mapM_eq_mapM_toList];simp only[Sem.run_bind,Sem.run_map,List.mapM_cons,List.mapM_nil,h2,asAddr,Sem.run_pure,Result.andThen_ok,d];rfl
@[reducible] noncomputable def gck (G:Nat->Prop) (M:Nat):É:=(Gh G).re G [] none M
def adN [É] {ν:Nat->Value} {h:y5 Blk} {w:World} {x:bl} {us:y5 Value} (a:í (VRc ν h w) (flat Å x) us):CR w noG Å x us:=by
 have e:Ô Å (flat Å x)=some x:=rfl;have h2:í (VRs w (Av ν h)) (flat Å x) us:=a.mono fun c u b=>b.1.data;exact CR.mono (fun _ d=>d.elim) (ď e h2)
def xl (G:Nat->Prop) (y:Int) (w:World) (e:Ending) (w':World):Prop :=
 ∃u,e=.returned u/\RR w' G [tI] y u/\(∀b,b<w.heap.size->w'.heap[b]?=w.heap[b]?)/\w.heap.size<=w'.heap.size/\w'.os=w.os/\w'.tape=w.tape/\w'.output=w.output
def Tp {G:Nat->Prop} {y:Int} {w0 w:World} {a:Act} {ms:y5 Nat} {rb:Nat} {e:TypeId} (hd:a.defers=ms.map mk1) (s:ms.Nodup) (i:∀k∈ms,w.heap[k]?=some (.deferred (some []))/\w0.heap.size<=k) (h2:a.tmps.getD 2 undef=.pointer (some ⟨rb,0,none⟩)) (g:w.heap[rb]?=some (.cells #[.int .i64 y] e (0,0)))
 (hb:∀b,b<w0.heap.size->w.heap[b]?=w0.heap[b]?) (c:w0.heap.size<=w.heap.size) (z:w.os=w0.os) (x:w.tape=w0.tape) (v:w.output=w0.output):LeavesInM Fence.wide 2 Tryz.prog Tryz.f55 a.tmps (xl G y w0) a.defers .returning w:=by
 rw[hd]
 have d:rb∉ms:=fun h=>by rw[(i rb h).1] at g; cases g
 refine jv ms w s (fun k u=>(i k u).1) fun A r q p o j=>?_;exact⟨.int .i64 y,Wd h2 ((j rb d).trans g),.int .i64 y,rfl,⟨[.int .i64 y],rfl,rfl⟩,fun b f=>(j b fun t=>by have:=(i b t).2; omega).trans (hb b f),by rw[r]; exact c,q.trans z,p.trans x,o.trans v⟩
def adJ (S:St):ckK .ret S=(YC S).map .inl:=by
 unfold ckK
 cases YC S<;>rfl
def U1 (S:St):ckK .normal S=if decide (78<=S.t.length)=true then some (.inr ([lk S.t 1,lk S.t 2,lk S.t 48],S.h)) else none:=by
 unfold ckK
 cases decide (78<=S.t.length)<;>rfl
def jp [É] {ρ:Type} {E:Env ρ} (h0:E.loops=gK []) (c:E.ranges=fun _ _ _ _ _ _ _=>none) {path:y5 Nat} {fid bid:Nat} {b:LI}:iy E path fid bid b:=by
 cases b with
 |lp b=>exact fun m S K r ν a w e=>by rw[h0] at e; cases e
 |rf g ps x y=>exact fun m S K r ν a w e=>by rw[c] at e; cases e
def acg {ρ:Type} (E:Env ρ) (e:E.P.follows .mixedOrders=true) (a:∀[É],Ι E->uR E) (h0:E.loops=gK []) (g:E.ranges=fun _ _ _ _ _ _ _=>none) (d:E.yld=none) [É]:gN E 2 (ŭ E 10) :=
 jk a (fun L call b=>θ e L call b) (fun n i b _ _ path f fn c _ _ _ z _=>jp h0 g) 10 (bX _) (ľ d)
noncomputable def acG:Code->String
 | .region _ ops _ => ((ops[0]?).map fun o => o.pos).getD ""
 | _ => ""
noncomputable def rfA:Code->Code
 |.block _ (.rangeFunc _ _ a _)=>a
 |_=>.skip
noncomputable def rfB:Code->Code
 |.block _ (.rangeFunc _ _ _ (.block _ (.seq a _)))=>a
 |_=>.skip
noncomputable def rfC:Code->Code
 |.block _ (.rangeFunc _ _ _ (.block _ (.seq _ (.cond _ (.seq a _) _))))=>a
 |_=>.skip
def adH:ckRF=Code.block 0 (Code.rangeFunc (.tmp 48) #[49] (RG (acG (rfA ckRF))) (abS (acG (rfB ckRF)) (acG (rfC ckRF)))):=by kernel_rfl
def acf:∀e∈ck_pt,Þ Tryz.prog e.1 e.2:=Á Hf (Á Hc (Á vK (Á Hj Ä)))
def YD {e:Exit} {S:St} {n:Int} (h:ckK2 e S=some n):e=.ret/\lk S.t 2=.box 1 0/\lkB S.h 1=.cells [.int .i64 n]:=by
 unfold ckK2 at h
 split at h
 ·split at h
  ·rename_i h2
   split at h
   ·rename_i a;cases h;exact⟨rfl,h2,a⟩
   ·cases h
  ·cases h
 ·cases h
def Oq [É] {ν:Nat->Value} {h:y5 Blk} {w:World} {n:Int} {id:Nat} (H:HR ν h w) (d:lkB h id=.cells [.int .i64 n]):∃b e,ν id=.pointer (some ⟨b,0,none⟩)/\w.heap[b]?=some (.cells #[.int .i64 n] e (0,0)):=by
 have a:=H.blk id;rw[d] at a;obtain⟨b,c,e,k,h2,j⟩:=a;obtain⟨u,i,g⟩:=j.one;have f:u=.int .i64 n:=g.1;refine⟨b,e,k,?_⟩;rw[h2]
 have:c=#[.int .i64 n]:=by rw[<-cD,i,f]
 rw[this]
def uK [É] {ν:Nat->Value} {h:y5 Blk} {w:World} {id off:Nat} {v:Value} {b:Nat} (a:VR ν h w (.box id off) v) (hb:ν id=.pointer (some ⟨b,0,none⟩)):v=.pointer (some ⟨b,off,none⟩):=by
 obtain⟨cs,e,d,h2,c⟩:=a;rw[hb] at h2;cases h2;exact c
def adG {G:Nat->Prop} {x:bl} {s:ge} {y:Int} (X:ckS x=some y) {ν:Nat->Value} {w0 c W:World} {a:Act} (H:@HR _ (gck G w0.heap.size) ν (ckH x s 0) c) (hb:Below c.heap.size c W) {ms:y5 Nat} (hd:a.defers=ms.map mk1) (V:ms.Nodup) (E:∀k∈ms,W.heap[k]?=some (.deferred (some []))/\w0.heap.size<=k) (r:78<=a.tmps.size)
 (t1:@VR _ (gck G w0.heap.size) ν (ckH x s 0) c (.box 0 0) (a.tmps.getD 1 undef)) (t2:@VR _ (gck G w0.heap.size) ν (ckH x s 0) c (.box 1 0) (a.tmps.getD 2 undef))
 (h0:∀b,b<w0.heap.size->c.heap[b]?=w0.heap[b]?/\¬mq ν (ckH x s 0) b) (D:w0.heap.size<=c.heap.size) (u:c.os=w0.os) (Z:c.tape=w0.tape) (Y:c.output=w0.output) :
 J4.wpIn Fence.wide 2 Tryz.prog (bodyPostM Fence.wide 2 Tryz.prog Tryz.f55 (xl G y w0)) a W:=by
 have J:∀b,mq ν (ckH x s 0) b->b<c.heap.size:=fun b M=>@HR.ltA _ (gck G w0.heap.size) _ _ _ H b (.inl M)
 have B:∃b,ν 0=.pointer (some ⟨b,0,none⟩)/\a.tmps.getD 1 undef=.pointer (some ⟨b,0,none⟩):=by
  obtain⟨cs,b,_,h2,u⟩:=t1;exact⟨b,h2,u⟩
 have A:∃b,ν 1=.pointer (some ⟨b,0,none⟩)/\a.tmps.getD 2 undef=.pointer (some ⟨b,0,none⟩):=by
  obtain⟨cs,b,_,h2,u⟩:=t2;exact⟨b,h2,u⟩
 letI:É:=gck G w0.heap.size
 have H1:HR ν (ckH x s 0) c:=H;have H2:HR ν (ckH x s 0) W:=(H1.grow (fun b g=>hb.block b g) hb.size hb.os hb.tape hb.output 0).2;have j:∀L call,gN (abc Int) L call->kd (abc Int) L call:=θ hmix;have K:(abc Int).loops=gK []:=rfl;have f:gN (abc Int) 2 (ŭ (abc Int) 10):=acg (abc Int) hmix (fun {_} _=>BT acf (abc Int) rfl rfl rfl rfl rfl (Ń rfl) (lh rfl) (ľ rfl)) rfl rfl rfl;have law:=ck_suf x s;rw[X] at law
 have C:Sim ν {t:=[.any,.box 0 0,.box 1 0]++List.replicate 75 .any,h:=ckH x s 0} a W:=by
  refine⟨⟨⟨ms,hd.trans (cn _).symm,V,E⟩,fun l M=>(by cases M),cG _,cg D hb.size⟩,by simpa using r,fun i=>?_,H2⟩;simp only[F9];rcases i with _|_|_|i
  ·trivial
  ·obtain⟨b,o,d⟩:=B;exact⟨_,b,rfl,o,d⟩
  ·obtain⟨b,o,d⟩:=A;exact⟨_,b,rfl,o,d⟩
  ·trivial
 refine wpIn_wide.2 (wpIn_wide.1 (wpIn_mono (iP f (j _ _ f) rfl J4 0 _ _ ν a W (fun z _=>jp K rfl) law C (cG _)) fun e a' w' ha=>?_));obtain⟨ν',S',o,d,_,_,g5⟩:=ha;obtain⟨rfl,k2,k3⟩:=YD g5;obtain⟨rb,te,R,Q⟩:=Oq o.heap k3;have N:=o.tmps 2;rw[k2] at N;have O:=uK N R;obtain⟨⟨S,m1,U,T⟩,_⟩:=o.defers;refine Tp (w:=w') (a:=a') (G:=G) (y:=y) (w0:=w0) (rb:=rb) (m1.trans (cn _)) U T O Q (fun b g=>?_) (by have:=d.size; have:=hb.size; omega) (d.os.trans (hb.os.trans u)) (d.tape.trans (hb.tape.trans Z)) (d.output.trans (hb.output.trans Y));have v:=h0 b g
 have q:b<c.heap.size:=by omega
 have p:b<W.heap.size:=by have:=hb.size; omega
 exact(d.keep b p v.2).1.trans ((hb.block b q).trans v.1)
set_option maxHeartbeats 2000000 in
def U2 (G:Nat->Prop) (x:bl) (y:Int) (A:Ā x=some y) (w:World) (vals:y5 Value) (hG:∀b,G b->b<w.heap.size) (hΦ:Globs.Φ w) (hAL:AL w G [Å] x vals) :
 (∃fn c,Tryz.prog.funcs[55]?=some fn/\fn.body=some c)/\CallsIn Fence.wide 0 Tryz.prog 55 vals.toArray w (xl G y w):=by
 rw[abb] at A
 letI:É:=gck G w.heap.size
 have hpt:=acf;have hdraw:∀L call,gN (ckE ckR) L call->kd (ckE ckR) L call:=θ hmix;have h0:(ckE ckR).loops=gK []:=rfl;have p:gN (ckE ckR) 2 (ŭ (ckE ckR) 10):=acg (ckE ckR) hmix (fun {_} _=>BT hpt (ckE ckR) rfl rfl rfl rfl rfl (Ń rfl) (lh rfl) (ľ rfl)) rfl rfl rfl;have hD:=hdraw _ _ p;have H:HR (fun _=>undef) [] w:=⟨fun _=>trivial,fun _ _ _ h=>(by cases h),hG,fun _ _ h=>(by cases h),hΦ,fun _ _ ⟨_,h,_⟩=>(by cases h)⟩;have hav:∀b,Av (fun _=>undef) [] b->G b:=fun b hb=>hb.elim (fun⟨_,h,_⟩=>by cases h) id;have E:í (VR (fun _=>undef) [] w) (Ee [Å] x) vals:=AL.VR (hAL.mono hav);refine⟨⟨Tryz.f55,_,Tryz.func55,ach⟩,?_⟩
 have hlen:vals.length=1:=by
  have:=E.length;simpa[Ee,X8] using this.symm
 cases hM:ckM x with
 |none=>rw[hM] at A; cases A
 |some r0 =>
 rw[hM] at A;have law:=ck_pre x;rw[hM] at law;refine callsIn_wide.2 (callsIn_wide.1 (callsIn_of_wp_marks (n:=2) Tryz.func55 ach trivial ?_ (R:=xl G y w)))
 have hS:Sim (fun _=>undef) {t:=Ee [Å] x++List.replicate 77 .any,h:=[]} {tmps:=vals.toArray++Array.replicate (Tryz.f55.ntmps-vals.toArray.size) undef,defers:=[]} w:=by
  refine⟨⟨⟨[],rfl,dT,fun _ h=>(by cases h)⟩,fun l hl=>(by cases hl),cG _,bX _⟩,?_,fun i=>?_,H⟩
  ·have:Tryz.f55.ntmps=78:=by kernel_rfl
   have hl2:(Ee [Å] x).length=1:=rfl;simp[this,hlen,hl2]
  ·simp only[F9];rcases cW i (Ee [Å] x).length with hi|hi
   ·have:=í.lk (R:=VR (fun _=>undef) [] w) (fun _=>trivial) i E
    have hv:i<vals.length:=by rw[<-E.length]; exact hi
    have h2:(vals.toArray++Array.replicate (Tryz.f55.ntmps-vals.toArray.size) undef).getD i undef=vals.getD i undef:=by
     simp[cE,dU,hv]
    rw[h2]; exact this
   ·rw[Xt _ _ hi]; trivial
 -- the ways out ahead of the loop
 have out:∀ν' V a' w' e,e≠.normal->Sim ν' V a' w'->Ev 0 (fun _=>undef) [] w ν' V.h w'->ckK e V=some r0->bodyPostM Fence.wide 2 Tryz.prog Tryz.f55 (xl G y w) e a' w':=by
  intro ν' V a' w' e U r J d
  cases e with
  |normal=>exact(U rfl).elim
  |ret =>
   rw[adJ] at d
   cases hr:YC V with
   |none=>rw[hr] at d; cases d
   |some n =>
    rw[hr,di] at d;cases d
    have hyn:n=y:=by simpa using A
    subst hyn;unfold YC at hr
    split at hr
    ·rename_i v hv;show LeavesInM _ _ _ _ _ _ a'.defers _ _;obtain⟨⟨ms,m1,m2,m3⟩,_,m4,m5⟩:=r.defers;rw[show a'.defers=ms.map mk1 from m1.trans (cn _)];refine jv ms w' m2 (fun k d=>(m3 k d).1) fun w2 q1 q2 q3 q4 q5=>?_
     have hk2:∀(b:Nat) (o:Obj),w'.heap[b]?=some o->CD o=true\/b<(gck G w.heap.size).B->w2.heap[b]?=some o:=fun b o hb hd=>by
      have hbm:b∉ms:=fun hm=>by
       rw[(m3 b hm).1] at hb; cases hb;rcases hd with hd|hd
       ·cases hd
       ·exact absurd hd (Nat.not_lt_zero _)
      rw[q5 b hbm]; exact hb
     have KG:gu (gck G w.heap.size) ν' V.h w' (gck G w.heap.size).G w2:=gu.nds q2 q3 q4 (by omega) hk2
     have sim2:Sim ν' V {a' with defers:=[]} w2:=⟨⟨⟨[],rfl,dT,fun _ h=>(by cases h)⟩,fun l hl=>(by cases hl),cG _,by rw[q1]; exact m5⟩,r.len,fun i=>VR.step (g:=gck G w.heap.size) (D:=[]) (Q:=none) (M:=w.heap.size) KG (r.tmps i),
      HR.step (g:=gck G w.heap.size) (D:=[]) (Q:=none) (M:=w.heap.size) KG (fun b hb=>by rw[q1]; exact r.heap.ghlt b hb) (fun b hb hg=>by obtain⟨id,h1,h2⟩:=hb; exact r.heap.ghne id b h1 h2 hg) r.heap⟩
     obtain⟨u,r1,r2⟩:=Bs sim2 hv;exact⟨u,r1,u,rfl,Ku sim2.heap [tI] r2 hr,fun b hb=>(q5 b fun hm=>by have m7:w.heap.size<=b:=(m3 b hm).2; omega).trans (J.keep b hb fun⟨_,h,_⟩=>by cases h).1,by rw[q1]; exact J.size,q2.trans J.os,q3.trans J.tape,q4.trans J.output⟩
    ·cases hr
  |exit id=>cases d
  |goto l=>cases d
  |panic ch=>cases d
  |outgrown=>cases d
 have K:∀{Z:Nat->Value} {h₁:y5 Blk} {w₁:World},Ev 0 (fun _=>undef) [] w Z h₁ w₁->∀ν' V a' w' e,e≠.normal->Sim ν' V a' w'->Ev 0 Z h₁ w₁ ν' V.h w'->ckK e V=some r0->bodyPostM Fence.wide 2 Tryz.prog Tryz.f55 (xl G y w) e a' w' :=
  fun hE ν' V a' w' e U r J d=>out ν' V a' w' e U r (hE.trans J (bX _)) d
 refine peel rfl p hD rfl rfl (fun z _=>jp h0 rfl) law hS (fun ν1 S1 a1 w1 s1 e1 k1=>?_) out;refine peel rfl p hD rfl rfl (fun z _=>jp h0 rfl) k1 s1 (fun ν2 S2 a2 w2 s2 e2 k2=>?_) (K e1);have t2:=e1.trans e2 (bX _);refine peel rfl p hD rfl rfl (fun z _=>jp h0 rfl) k2 s2 (fun ν3 S3 a3 w3 s3 e3 k3=>?_) (K t2);have t3:=t2.trans e3 (bX _);refine peel rfl p hD rfl rfl (fun z _=>jp h0 rfl) k3 s3 (fun ν4 S4 a4 w4 s4 e4 k4=>?_) (K t3);have t4:=t3.trans e4 (bX _);refine peel rfl p hD rfl rfl (fun z _=>jp h0 rfl) k4 s4 (fun ν5 S5 a5 w5 s5 e5 k5=>?_) (K t4);have t5:=t4.trans e5 (bX _);refine wpIn_seq (wpIn_seq (wpIn_wide.2 (wpIn_wide.1 (wpIn_mono (iP p hD rfl ckA5 0 S5 _ ν5 a5 w5 (fun z _=>jp h0 rfl) k5 s5 (cG _)) fun e' a6 N ha=>?_))));obtain⟨ν,S,X,e6,_,_,k6⟩:=ha;have O:=t5.trans e6 (bX _)
 have f:∀e,e≠.normal->ckK e S=some r0->Exit.then (Code.wpIn Fence.wide 2 Tryz.prog J4 (bodyPostM Fence.wide 2 Tryz.prog Tryz.f55 (xl G y w))) (bodyPostM Fence.wide 2 Tryz.prog Tryz.f55 (xl G y w)) e a6 N:=by
  intro e U d;have:=out ν S a6 N e U X O d
  cases e<;>first|exact(U rfl).elim|exact this
 cases e' with
 |exit id=>exact f _ (by simp) k6
 |goto l=>exact f _ (by simp) k6
 |ret=>exact f _ (by simp) k6
 |panic ch=>exact f _ (by simp) k6
 |outgrown=>exact f _ (by simp) k6
 |normal =>
 clear f;rw[U1] at k6
 split at k6<;>try (cases k6; done)
 rename_i h78
 have h78':78<=S.t.length:=by simpa using h78
 cases k6;obtain⟨hlens,s,hs,hq⟩:=adI hM;simp only[Prod.mk.injEq,List.cons.injEq,and_true] at hq;obtain⟨⟨q1,q2,q48⟩,qh⟩:=hq
 have hF2:MY (lP x s) some (ckS x)=some y:=by
  simp only at A;rw[hs] at A;exact A
 -- what the errors are
 obtain⟨L,Y,hLy⟩:∃L,lP x s=some L/\(match L.find? (fun e=>e != 0) with|some e=>some e|none=>ckS x)=some y:=by
  unfold MY at hF2
  cases hl:lP x s with
  |none=>rw[hl] at hF2; cases hF2
  |some L=>rw[hl] at hF2; exact⟨L,rfl,hF2⟩
 obtain⟨l1,l2,l3,l4,m1,m2,m3,m4,rfl⟩:∃l1 l2 l3 l4,E7 (fun u=>ħ u.1 u.2 s) (x.2.2.1:y5 (Int×Int))=some l1/\E7 (fun i=>Ť x s i) (ta (x.2.2.2.1:y5 qs).length)=some l2 /\
  E7 (fun i=>ĩ x s i) (ta (x.2.2.2.2.1:y5 js).length)=some l3/\E7 (fun u=>ħ u.1 u.2 s) (x.2.2.2.2.2:y5 (Int×Int))=some l4/\L=l1++(l2++(l3++l4)):=by
  unfold lP at Y
  cases m1:E7 (fun u=>ħ u.1 u.2 s) (x.2.2.1:y5 (Int×Int)) with
  |none=>rw[m1] at Y; cases Y
  |some l1 =>
  rw[m1] at Y
  cases m2:E7 (fun i=>Ť x s i) (ta (x.2.2.2.1:y5 qs).length) with
  |none=>simp only[Ã,m2] at Y; cases Y
  |some l2 =>
  cases m3:E7 (fun i=>ĩ x s i) (ta (x.2.2.2.2.1:y5 js).length) with
  |none=>simp only[Ã,m2,m3] at Y; cases Y
  |some l3 =>
  cases m4:E7 (fun u=>ħ u.1 u.2 s) (x.2.2.2.2.2:y5 (Int×Int)) with
  |none=>simp only[Ã,m2,m3,m4] at Y; cases Y
  |some l4 =>
  simp only[Ã,m2,m3,m4] at Y;cases Y;exact⟨l1,l2,l3,l4,rfl,rfl,rfl,rfl,rfl⟩
 -- the blocks
 obtain⟨T,Hh⟩:=S;dsimp only at q1 q2 q48 qh h78';subst qh;have p1:=X.tmps 1;have p2:=X.tmps 2;have p48:=X.tmps 48;dsimp only at p1 p2 p48;rw[q1] at p1;rw[q2] at p2;rw[q48] at p48;obtain⟨rb,te1,n1,hrb⟩:=Oq (id:=1) (n:=0) X.heap rfl;have hB2:BR ν (ckH x s 0) N 2 (.cells (flat Å x)):=X.heap.blk 2;have hB3:BR ν (ckH x s 0) N 3 (.cells [.mp tI Ê s]):=X.heap.blk 3;have hB4:BR ν (ckH x s 0) N 4 (.cells [.fn (.func 184) [] [.box 3 0]]):=X.heap.blk 4;obtain⟨bb,cb,te,n2,hbb,hb2⟩:=hB2;obtain⟨sb,cs3,te3,n3,hsb,hb3⟩:=hB3;obtain⟨tb,cs4,te2,n4,htb,hb4⟩:=hB4;obtain⟨mv,z3,hm3⟩:=hb3.one;obtain⟨fv,z4,hm4⟩:=hb4.one;have hmv:CR N noG (.map tI Ê) s [mv]:=CR.mono (fun _ hf=>hf.elim) (show CR N (Av ν (ckH x s 0)) (.map tI Ê) s [mv] from hm3.1)
 have hc3:cs3=#[mv]:=by rw[<-cD,z3]
 have hfv:fv=.func (.func 184) #[] #[.pointer (some ⟨sb,0,none⟩)]:=by
  obtain⟨fs,cs,h1,h2,h3⟩:=hm4.1
  have e1:fs=#[]:=by rw[<-cD]; exact h2.nil_left
  obtain⟨u,e2,h4⟩:=h3.one;have e3:u=.pointer (some ⟨sb,0,none⟩):=uK (w:=N) (id:=3) (off:=0) h4 n3
  have e4:cs=#[.pointer (some ⟨sb,0,none⟩)]:=by rw[<-cD,e2,e3]
  rw[h1,e1,e4]
 have hc4:cs4=#[fv]:=by rw[<-cD,z4]
 rw[hc3] at hsb;rw[hc4,hfv] at htb
 have hg:a6.tmps.getD 48 undef=.func (.func 187) #[] #[.pointer (some ⟨bb,0,none⟩),.pointer (some ⟨tb,0,none⟩),.pointer (some ⟨sb,0,none⟩)]:=by
  obtain⟨fs,cs,h1,h2,h3⟩:=p48
  have e1:fs=#[]:=by rw[<-cD]; exact h2.nil_left
  have hl:=h3.length
  obtain⟨u1,u2,u3,e2⟩:∃u1 u2 u3,cs.toList=[u1,u2,u3]:=by
   rcases hcs:cs.toList with _|⟨u1,_|⟨u2,_|⟨u3,_|⟨u4,t⟩⟩⟩⟩<;>rw[hcs] at hl<;>simp at hl
   exact⟨u1,u2,u3,rfl⟩
  rw[e2] at h3;have e3:u1=.pointer (some ⟨bb,0,none⟩):=uK (w:=N) (id:=2) (off:=0) h3.1 n2;have e4:u2=.pointer (some ⟨tb,0,none⟩):=uK (w:=N) (id:=4) (off:=0) h3.2.1 n4;have e5:u3=.pointer (some ⟨sb,0,none⟩):=uK (w:=N) (id:=3) (off:=0) h3.2.2.1 n3;rw[h1,e1];congr 1;rw[<-cD,e2,e3,e4,e5]
 have hseq:=Z0 X.heap.glob m1 m2 m3 m4 hlens hbb (adN hb2) htb hsb hmv;have h2:=uK p2 n1;have hsz:78<=a6.tmps.size:=cg h78' X.len
 have C:∀b,b<w.heap.size->N.heap[b]?=w.heap[b]?/\¬mq ν (ckH x s 0) b:=fun b hb=>O.keep b hb fun⟨_,h,_⟩=>by cases h
 obtain⟨⟨ms,m1',m2',q⟩,_⟩:=X.defers;have hdef:a6.defers=ms.map mk1:=m1'.trans (cn _);show ckRF.wpIn Fence.wide 2 Tryz.prog (Exit.then (J4.wpIn Fence.wide 2 Tryz.prog (bodyPostM Fence.wide 2 Tryz.prog Tryz.f55 (xl G y w))) (bodyPostM Fence.wide 2 Tryz.prog Tryz.f55 (xl G y w))) a6 N;rw[adH];refine wpIn_block (acC hseq hg h2 hsz hrb (fun D W hall hbel hDl hDo=>?_) (fun D W z hz j hDl hDo=>?_))
 ·have hck:ckS x=some y:=by
   have:(l1++(l2++(l3++l4))).find? (fun e=>e != 0)=none:=eD.2 fun z hz=>by rw[hall z hz]; simp
   rw[this] at hLy;exact hLy
  have hDn:D∉ms:=fun hm=>by have:=Ù (q D hm).1; omega
  exact adG (s:=s) (ms:=D::ms) hck X.heap hbel (by show abY D::a6.defers=_; rw[hdef]; rfl) (eJ.2 ⟨hDn,m2'⟩) (fun k d=>by
   rcases b9.1 d with rfl|d
   ·exact⟨hDo,cg O.size hDl⟩
   ·exact⟨(hbel.block k (Ù (q k d).1)).trans (q k d).1,(q k d).2⟩) hsz p1 p2 C O.size O.os O.tape O.output
 ·have hzy:z=y:=by
   rw[hz] at hLy;simpa using hLy
  subst hzy;obtain⟨te5,hcell⟩:=j.cell;have hlb:=Ù hrb;have hlive:mq ν (ckH x s 0) rb:=⟨1,rfl,by rw[n1]; rfl⟩
  have hDn:D∉ms:=fun hm=>by have:=Ù (q D hm).1; omega
  exact Tp (a:={a6 with defers:=abY D::a6.defers}) (w:=W) (ms:=D::ms) (by show abY D::a6.defers=_; rw[hdef]; rfl) (eJ.2 ⟨hDn,m2'⟩) (fun k d=>by
   rcases b9.1 d with rfl|d
   ·exact⟨hDo,cg O.size hDl⟩
   ·exact⟨(j.block k (Ù (q k d).1) (fun e=>by have h9:=(q k d).1; rw[e,hrb] at h9; cases h9)).trans (q k d).1,(q k d).2⟩) h2 hcell
   (fun b hb=>(j.block b (by have:=O.size; omega) (fun e=>(C b hb).2 (e▸hlive))).trans (C b hb).1) (by have:=O.size; have:=j.size; omega) (j.os.trans O.os) (j.tape.trans O.tape) (j.output.trans O.output)
def Ζ:Þ Tryz.prog 55 iI:=fun G x y d w vals c a b=>U2 G x y d w vals c a b
end Go.Proofs.ZzM
end

noncomputable section
set_option maxRecDepth 100000
namespace Go.Proofs.ZzM
open Go Go.Am Go.RowKit
abbrev cP:Type:=Val (tyL gx)
abbrev cV:Type:=Val (tyL kE)
abbrev cS (p:cP) (v:cV):St:=â pV gx kE p v
abbrev cU (p:cP) (v:cV) (x:cT):St:=â Fp gx vd p (xH v x)
def aa4 (a:y5 (Int×Bool)) (n:Int):kH Tryz.prog [.map tI .bool a] 177 (.omp 0) (.int .i64 n) false some=(match (pO (k:=tI) (v:=.bool) n a:x9 Bool) with|some y=>some (.bool y)|none=>some (.bool false)):=by kernel_rfl
noncomputable def MapAt (W:World) (d:Nat) (c:y5 (Int×Bool)):Prop:=Globs.Φ W/\∃(a:Array MapEntry) (b:Nat),W.heap[d]?=some (.map a b)/\a.size=c.length/\∀(i:Nat) (e:Int×Bool),c[i]?=some e->∃m,a[i]?=some m/\m.key=.int .i64 e.1/\m.val=.bool e.2
noncomputable def Da (a:y5 (Int×Bool)) (n:Int):Bool:=((pO (k:=tI) (v:=.bool) n a:x9 Bool)).getD false
def aax {W:World} {f:Nat} {d:y5 (Int×Bool)} (h:MapAt W f d) (n:Int):(Instr.lookup 177 (.map (some f)) (.int .i64 n) false).run Tryz.prog W=.ok (.bool (Da d n)) W:=by
 letI:É:=Gh fun _=>False
 obtain⟨p,a,g,y,h2,G⟩:=h
 have H:HR (fun _=>.map (some f)) [.map tI .bool d] W:=by
  refine⟨fun id=>?_,fun i j b hi D _ _=>?_,fun b hb=>hb.elim,fun id b _ _ hb=>hb.elim,p,fun b hb ⟨id,z,B⟩=>?_⟩
  ·rcases id with _|id
   ·refine⟨f,a,g,rfl,y,h2,fun i e E=>?_⟩;obtain⟨m,t,s,A⟩:=G i e E;exact⟨m,[.bool e.2],t,by rw[s]; rfl,rfl,by rw[A]; rfl⟩
   ·rw[sL _ _ (by simp)]; trivial
  ·have one:∀i,(lkB [Blk.map tI .bool d] i).live=true->i=0:=fun i hi=>by
    rcases i with _|i
    ·rfl
    ·rw[sL _ _ (by simp)] at hi; cases hi
   rw[one i hi,one j D]
  ·obtain⟨c,e,r,q⟩:=Globs.cel W p b hb;rcases id with _|id
   ·have J:f=b:=by rcases B with⟨o,r,e⟩|e<;>cases e<;>rfl
    rw[J,q] at y; cases y
   ·rw[sL _ _ (by simp)] at z; cases z
 have x:VR (fun _=>.map (some f)) [.map tI .bool d] W (.omp 0) (.map (some f)):=⟨rfl,_,_,_,rfl,rfl⟩
 have C:kH Tryz.prog [.map tI .bool d] 177 (.omp 0) (.int .i64 n) false some=some (.bool (Da d n)):=by
  rw[aa4];unfold Da
  cases(pO (k:=tI) (v:=.bool) n d:x9 Bool)<;>rfl
 obtain⟨u,t,s⟩:=Oe H C x (ui:=.int .i64 n) rfl;rw[t];have:u=.bool (Da d n):=s;rw[this]
noncomputable def gz (l:y5 cT) (j:Nat):cT:=l[j]?.getD (0,0,0,(0,0),(0,0),0)
def QG {w:World} {av:Nat->Prop} {g:cT} {us:y5 Value} (h:CR w av Ê g us) :
 us=[.int .i64 g.1,.int .i64 g.2.1,.int .i64 g.2.2.1,.int .i64 g.2.2.2.1.1,.int .i64 g.2.2.2.1.2,.int .i64 g.2.2.2.2.1.1,.int .i64 g.2.2.2.2.1.2,.int .i64 g.2.2.2.2.2]:=by
 obtain⟨B,G,rfl,j,A,E,rfl,h2,a3,D,rfl,i,H,C,rfl,⟨z,y,rfl,f,e⟩,⟨b3,a,rfl,⟨x,v,rfl,d,c⟩,b⟩⟩:=h;have u:B=[.int .i64 g.1]:=j;have t:A=[.int .i64 g.2.1]:=h2;have s:a3=[.int .i64 g.2.2.1]:=i;have r:z=[.int .i64 g.2.2.2.1.1]:=f;have q:y=[.int .i64 g.2.2.2.1.2]:=e;have p:x=[.int .i64 g.2.2.2.2.1.1]:=d;have o:v=[.int .i64 g.2.2.2.2.1.2]:=c;have k:a=[.int .i64 g.2.2.2.2.2]:=b;subst u t s r q p o k;rfl
noncomputable def KNd (w1:World) (R:Nat->Prop) (tb:Nat) (c:y5 (Int×Bool)) (W:World):Prop:=w1.heap.size<=W.heap.size/\(∀b,R b->W.heap[b]?=w1.heap[b]?)/\(tb<w1.heap.size/\∀b,b<Globs.n->b<w1.heap.size)/\∃a,a<w1.heap.size/\W.cell? ⟨tb,0,none⟩=some (.map (some a))/\MapAt W a c
def KNd.below {w1 W W':World} {R:Nat->Prop} {tb:Nat} {e:y5 (Int×Bool)} (k:∀b,R b->b<w1.heap.size) (h:KNd w1 R tb e W) (i:W.heap.size<=W'.heap.size) (hb:∀b,b<w1.heap.size->W'.heap[b]?=W.heap[b]?):KNd w1 R tb e W':=by
 obtain⟨s,h2,c,d,g,r,a,t,u,q,p,o⟩:=h;exact⟨cg s i,fun b f=>(hb b (k b f)).trans (h2 b f),c,d,g,by rw[World.cell?_of_block (w:=W) (hb tb c.1)]; exact r,Globs.keep W W' a (fun b j=>hb b (c.2 b j)),t,u,(hb d g).trans q,p,o⟩
def KNd.grown {w1 W W':World} {R:Nat->Prop} {tb:Nat} {a:y5 (Int×Bool)} (d:∀b,R b->b<w1.heap.size) (h:KNd w1 R tb a W) (c:W.grownBy W' none):KNd w1 R tb a W' :=
 h.below d c.size fun b hb=>c.block b (cf hb h.1) (by simp)
def lk_all {f:AV->Bool} (h0:f .any=true):∀(l:y5 AV),l.all f=true->∀i,f (lk l i)=true
 |[],_,i=>by cases i<;>exact h0
 |x::l,h,0=>by simp only[d8,bZ] at h; exact h.1
 |x::l,h,i+1=>by simp only[d8,bZ] at h; exact lk_all h0 l h.2 i
def lkB_all {f:Blk->Bool} (h0:f .dead=true):∀(l:y5 Blk),l.all f=true->∀i,f (lkB l i)=true
 |[],_,i=>by cases i<;>exact h0
 |x::l,h,0=>by simp only[d8,bZ] at h; exact h.1
 |x::l,h,i+1=>by simp only[d8,bZ] at h; exact lkB_all h0 l h.2 i
def abr (p:cP) (v:cV):(cS p v).h.all mfB=true:=by kernel_rfl
def cU_mf (p:cP) (v:cV) (x:cT):(cU p v x).h.all mfB=true:=by kernel_rfl
def cU_mft (p:cP) (v:cV) (x:cT):(cU p v x).t.all mfV3=true:=by kernel_rfl
noncomputable def pin0 (m:Nat):AV->Bool
 |.any=>true
 |.box id _=>Nat.blt id m
 |_=>false
noncomputable def pin3 (m:Nat):AV->Bool
 |.fn _ a b=>a.all (pin0 m)&&b.all (pin0 m)
 |a=>pin0 m a
section
variable [É] {ν ν':Nat->Value} {h h':y5 Blk} {w w':World} {m:Nat}
def VR0.pin (e:Ev m ν h w ν' h' w') {a:AV} {v:Value} (g:pin0 m a=true) (i:VR0 ν h w a v):VR0 ν' h' w' a v:=by
 cases a with
 |any=>trivial
 |box id off =>
  obtain⟨cs,b,j,o,h2⟩:=i;have c:id<m:=dl g;have hb:=e.blk id c;rw[j] at hb;obtain⟨⟨f,d⟩,k⟩:=hb;exact⟨f,b,d,by rw[k]; exact o,h2⟩
 |_=>cases g
def VR.pin (e:Ev m ν h w ν' h' w') {a:AV} {v:Value} (b:pin3 m a=true) (c:VR ν h w a v):VR ν' h' w' a v:=by
 cases a with
 |fn f fa fb =>
  obtain⟨fs,cs,g,h2,d⟩:=c;simp only[pin3,bZ,cr] at b;exact⟨fs,cs,g,h2.mem fun a ha _=>VR0.pin e (b.1 a ha),d.mem fun a ha _=>VR0.pin e (b.2 a ha)⟩
 |any=>trivial
 |box id off=>exact VR0.pin (a:=.box id off) e (show pin0 m (.box id off)=true from b) c
 |_=>cases b
end
def aci (p:cP) (v:cV):(cS p v).t.all (pin3 9)=true:=by kernel_rfl
def cS_len (p:cP) (v:cV):(cS p v).h.length=10:=by kernel_rfl
def cU_len (p:cP) (v:cV) (x:cT):(cU p v x).h.length=11:=by kernel_rfl
def cS_t (p:cP) (v:cV) (z:y5 cT):(cS p (Đ v z)).t=(cS p v).t:=by kernel_rfl
def cS_5 (p:cP) (v:cV):∃a b us lo d c,lkB (cS p v).h 5=.cells [.int .i64 a,.int .i64 b,.slc Ê (æ v),.slc Â us,.slc Ŏ lo,.slc Ü d,.slc Â c]:=⟨_,_,_,_,_,_,rfl⟩
def cS_6 (p:cP) (v:cV):lkB (cS p v).h 6=.cells [.omp 7]:=by kernel_rfl
def cS_7 (p:cP) (v:cV):lkB (cS p v).h 7=.map tI .bool (Ł v):=by kernel_rfl
def cS_59 (p:cP) (v:cV):lk (cS p v).t 59=.fn (.func 182) [] [.box 5 0,.box 6 0]:=by kernel_rfl
noncomputable def QA:Blk->Bool
 |.map _ _ _=>true
 |_=>false
def Q2 (p:cP) (v:cV):(cS p v).h.map QA=[false,false,false,false,false,false,false,true,true,false]:=by kernel_rfl
def adL (p:cP) (v:cV) (x:cT):(cU p v x).h.map QA=[false,false,false,false,false,false,false,true,true,false,false]:=by kernel_rfl
def JH:∀(l:y5 Blk) (i:Nat),QA (lkB l i)=true->(l.map QA)[i]?=some true
 |[],i,h=>by cases i<;>cases h
 |x::l,0,h=>by have:QA x=true:=h; simp[this]
 |x::l,i+1,h=>by simpa using JH l i h
def Sh {l:y5 Blk} {t:y5 Bool} (c:l.map QA=[false,false,false,false,false,false,false,true,true]++t) (a:∀b∈t,b=false) {id:Nat} {k u:Ty} {es:y5 (Val k×Val u)} (h:lkB l id=.map k u es):id=7\/id=8:=by
 have:=JH l id (by rw[h]; rfl);rw[c] at this
 rcases id with _|_|_|_|_|_|_|_|_|id<;>simp at this ⊢
 have:=a _ (ci this);cases this
noncomputable def acb {ρ:Type}:y5 cT->x9 ρ->x9 ρ
 |[],x=>x
 |_::_,_=>none
def QP {ρ:Type} {l:y5 cT} {x:x9 ρ} {r:ρ} (h:acb l x=some r):l=[]/\x=some r:=by
 cases l with
 |nil=>exact⟨rfl,h⟩
 |cons=>cases h
noncomputable def cutK (p:cP) (v:cV):x9 bl:=acb (rj v) (Ã (vp (æ v) (Ł v)) fun z=>lC p (Đ v z) some)
def XE {l:y5 cT} {a:y5 (Int×Bool)} {z:y5 cT} (h:vp l a=some z):Ú l.length=true/\z=(Hz (fun j=>Da a (gz l j).1) l.length).map (gz l):=by
 unfold vp at h;simp only[ä] at h
 split at h
 ·rename_i d;cases h;refine⟨d,?_⟩
  have b:∀(n:Nat),n<=l.length->(l.take n).filter (fun g=>((pO (k:=tI) (v:=.bool) g.1 a:x9 Bool)).getD false)=(Hz (fun j=>Da a (gz l j).1) n).map (gz l):=by
   intro n
   induction n with
   |zero=>intro _; rfl
   |succ n c =>
    intro e
    have f:l[n]?=some (gz l n):=by simp[gz,bY (show n<l.length from e)]
    rw[List.take_succ,List.filter_append,c (by omega),yl,f];have:((pO (k:=tI) (v:=.bool) (gz l n).1 a:x9 Bool)).getD false=Da a (gz l n).1:=rfl;simp only[Option.toList_some,dz,dH,this]
    split<;>simp
  have:=b l.length (bX _)
  rwa [f6] at this
 ·cases h
def aad {n m:Nat} (h:Ú n=true) (a:m<=n):Ú m=true:=by
 unfold Ú at h ⊢;simp only[Bool.and_eq_true,decide_eq_true_eq] at h ⊢
 first|omega|(constructor<;>omega)
def VR_gre {G:Nat->Prop} {D D':y5 Deferred} {Q Q':x9 Nat} {M M':Nat} {ν:Nat->Value} {h:y5 Blk} {w:World} {a:AV} {v:Value} (b:@VR _ ((Gh G).re G D Q M) ν h w a v):@VR _ ((Gh G).re G D' Q' M') ν h w a v:=b
def Hs {G:Nat->Prop} {D D':y5 Deferred} {Q Q':x9 Nat} {M M':Nat} {ν:Nat->Value} {h:y5 Blk} {w:World} (H:@HR _ ((Gh G).re G D Q M) ν h w):@HR _ ((Gh G).re G D' Q' M') ν h w:=HR.re (g:=(Gh G).re G D Q M) H
def vc [É] {c ν':Nat->Value} {g h':y5 Blk} {w1 W:World} (B:HR c g w1) (ev:Ev 9 c g w1 ν' h' W) (f:∀id,id=7\/id=8->∃k u es,lkB g id=.map k u es)
 {t:y5 Bool} (o:h'.map QA=[false,false,false,false,false,false,false,true,true]++t) (i:∀b∈t,b=false) (a:∀id,mfB (lkB h' id)=true):Zo w1.heap.size ν' h':=by
 refine⟨fun id k u es b j d=>?_,fun id t xs e=>(by have:=a id; rw[e] at this; cases this),fun id es e=>(by have:=a id; rw[e] at this; cases this),fun id s q e=>(by have:=a id; rw[e] at this; cases this)⟩
 have z:id<9:=by rcases Sh o i j with rfl|rfl<;>omega
 obtain⟨k1,u1,A,r⟩:=f id (Sh o i j);have hb:=ev.blk id z;rw[r] at hb;obtain⟨_,y⟩:=hb;have p:=B.blk id;rw[r] at p;obtain⟨b0,_,_,x,v,_⟩:=p;rw[y,x] at d;cases d;exact Ù v
def abt (p:cP) (v:cV):∀id,id=7\/id=8->∃k u es,lkB (cS p v).h id=.map k u es:=by
 rintro id (rfl|rfl)
 ·exact⟨_,_,_,rfl⟩
 ·exact⟨_,_,_,rfl⟩
noncomputable def CI (G:Nat->Prop) (p:cP) (v:cV) (b:Nat->Value) (w1:World) (a:y5 Nat) (W:World):Prop :=
 ∃ν',@HR _ (gck G 0) ν' (cS p (Đ v (a.map (gz (æ v))))).h W/\Ev 9 b (cS p v).h w1 ν' (cS p (Đ v (a.map (gz (æ v))))).h W
def CI.own {G:Nat->Prop} {p:cP} {v:cV} {a:Nat->Value} {w1:World} (o:@HR _ (gck G 0) a (cS p v).h w1):OwnFrom w1.heap.size (CI G p v a w1):=by
 intro i W W' row hI g d
 letI:É:=gck G 0
 obtain⟨ν',H,ev⟩:=hI;have f:=vc o ev (abt p v) (Q2 _ _) (t:=[false]) (by simp) (lkB_all rfl _ (abr _ _));refine⟨ν',H.ckeep (G5 g d) (fun id k u es b j c=>?_) (lkB_all rfl _ (abr _ _)),ev.own g fun r e=>(d r e).1⟩;have hb:=f.lt id k u es b j c
 exact g.block b (cf hb ev.size) fun e=>by have:=(d b e.symm).1; omega
def CI.nd {G:Nat->Prop} {p:cP} {v:cV} {a:Nat->Value} {w1 W:World} {d:y5 Nat} {R:Nat->Prop} {tb:Nat} (j:@HR _ (gck G 0) a (cS p v).h w1) (y:∀b,R b->b<w1.heap.size/\¬mq a (cS p v).h b) (g:a 6=.pointer (some ⟨tb,0,none⟩)) (hI:CI G p v a w1 d W):KNd w1 R tb (Ł v) W:=by
 letI:É:=gck G 0
 obtain⟨ν',H,ev⟩:=hI;have A:=j.blk 6;rw[cS_6] at A;obtain⟨b6,_,_,s,U,_⟩:=A;rw[g] at s;cases s;have z:=j.blk 7;rw[cS_7] at z;obtain⟨V,_,_,T,S,_⟩:=z;have C:=ev.blk 6 (by omega);rw[cS_6] at C;have B:=ev.blk 7 (by omega);rw[cS_7] at B;have k6:=H.blk 6;rw[show lkB (cS p (Đ v (d.map (gz (æ v))))).h 6=.cells [.omp 7] from cS_6 _ _] at k6;obtain⟨b,c,e,r,q,Q⟩:=k6;rw[C.2,g] at r;cases r;obtain⟨t,O,N⟩:=Q.one;obtain⟨_,k,u,es,_,M⟩:=N.1;have k7:=H.blk 7;rw[show lkB (cS p (Đ v (d.map (gz (æ v))))).h 7=.map tI .bool (Ł v) from cS_7 _ _] at k7;obtain⟨f,en,cl,t1,t2,L,K⟩:=k7;have e1:t=.map (some f):=M.trans t1
 have e2:f=V:=by rw[B.2,T] at t1; cases t1; rfl
 subst e2;refine⟨ev.size,fun b hb=>(ev.keep b (y b hb).1 (y b hb).2).1,⟨Ù U,fun b hb=>by obtain⟨o,Z,_⟩:=Globs.dat w1 j.glob b hb; exact Ù Z⟩,f,Ù S,?_,H.glob,en,cl,t2,L,fun i x X=>?_⟩
 ·have Y:c=#[t]:=by rw[<-cD,O]
  rw[Y,e1] at q;simp[World.cell?,q]
 ·obtain⟨m,us,u1,J,E,D⟩:=K i x X;have v1:[m.key]=[.int .i64 x.1]:=J;have v2:us=[.bool x.2]:=E;refine⟨m,u1,by simpa using v1,?_⟩;rw[D,v2];rfl
def UW:drawn (Am.rfA (Am.rfC 7 đ))=false:=by kernel_rfl
def UV:drawn (Am.rfB (Am.rfC 7 đ))=false:=by kernel_rfl
def UU:Ñ 4 (Am.rfA (Am.rfC 7 đ))=[]:=by kernel_rfl
def UT:Ñ 4 (Am.rfB (Am.rfC 7 đ))=[]:=by kernel_rfl
def Tm (ρ:Type):TK (ė ρ) 10:=jk (fun {_} _=>BT Fo (ė ρ) rfl rfl rfl rfl rfl (Ń rfl) (lh rfl) (ľ rfl)) (fun L call a=>θ hmix L call a) (Ay hmix (tab:=oy ρ) rfl CG rfl) 10 (bX _)
def LO [É] (ρ:Type):gN (ė ρ) 2 (ŭ (ė ρ) 10):=Tm ρ (ľ rfl)
def Ys {G:Nat->Prop} {M:Nat} {p:cP} {v:cV} {j:Nat->Value} {a:Act} {w1:World} (H1:@Sim _ (gck G M) j (cS p v) a w1) (l:Nat) (d:y5 Nat) (x:Nat) (W:World) (hl:w1.heap.size<=l) (hlo:∃r,W.heap[l]?=some (.loop r)) (hI:CI G p v j w1 d W) (hok:Ú (d.length+1)=true) {u:Value} (hu:∀[É] (ν:Nat->Value) (h:y5 Blk) (w:World),VR ν h w (.agg (flat Ê (gz (æ v) x))) u) :
 (Am.rfA (Am.rfC 7 đ)).wpIn (Fence.wide.inRound l) 0 Tryz.prog (Exit.then (fun V g=>KeepsFrom w1.heap.size W g/\∀s,(∃r,g.heap[l]?=some (.loop r)) ->
  (Am.rfB (Am.rfC 7 đ)).wpIn (Fence.wide.inRound l) 0 Tryz.prog (Exit.then (fun _ Y=>KeepsFrom w1.heap.size (g.putObj l (.loop s)) Y/\CI G p v j w1 (d++[x]) Y) (fun _ _ _=>False)) V (g.putObj l (.loop s))) (fun _ _ _=>False)) {tmps:=a.tmps.setIfInBounds 60 u,defers:=[]} W:=by
 letI:É:=(Gh G).re G [] (some l) 0
 have X:HR j (cS p v).h w1:=Hs (@Sim.heap _ (gck G M) _ _ _ _ H1);obtain⟨ν',H0,ev⟩:=hI;have H:HR ν' (cS p (Đ v (d.map (gz (æ v))))).h W:=Hs H0;obtain⟨f,o⟩:∃f,f=Đ v (d.map (gz (æ v))):=⟨_,rfl⟩;rw[<-o] at H ev
 have ht:(cS p f).t=(cS p v).t:=by rw[o]; exact cS_t _ _ _
 have hml:=vc X ev (abt p v) (Q2 _ _) (t:=[false]) (by simp) (lkB_all rfl _ (abr _ _))
 have J:Sim ν' (cS p f) {tmps:=a.tmps,defers:=[]} W:=by
  refine⟨⟨⟨[],rfl,dT,fun _ h=>(by cases h)⟩,fun l' C=>(by cases C; exact hlo),cG _,cG _⟩,?_,fun i=>?_,H⟩
  ·rw[ht]; show _<=a.tmps.size; exact @Sim.len _ (gck G M) _ _ _ _ H1
  ·rw[ht]; exact VR.pin ev (lk_all rfl _ (aci p v) i) (VR_gre (@Sim.tmps _ (gck G M) _ _ _ _ H1 i))
 have L:=J.put (Ev.refl _ _ _ _) H (some 60) (hu ν' _ W);have T:=LO (cP×Val (tyL vd));have hgo:=kL T (path:=[]) rfl (Am.rfA (Am.rfC 7 đ)) 4 _ _ ν' _ W (fun h=>by rw[UW] at h; cases h) (fun z N=>by rw[UU] at N; cases N) (Uq p f (gz (æ v) x) fun p u=>some (p,u)) L (cg (show 9<=10 by decide) (ez (cS_len p f).symm));refine wpIn_mono hgo fun e V g ha=>?_;obtain⟨νa,Sa,sA,evA,lenA,ddA,kA⟩:=ha;obtain⟨rfl,p',u',B,D⟩:=yQ kA;cases D;obtain⟨νb,sB,evB,lB,dB⟩:=jI _ _ _ _ _ _ _ νa V g B sA;have A:Ev 9 ν' (cS p f).h W νb (cU p f (gz (æ v) x)).h g:=evA.trans evB (bX _);have U:=ev.trans A (bX _);have R:=vc X U (abt p v) (adL _ _ _) (t:=[false,false]) (by simp) (lkB_all rfl _ (cU_mf _ _ _));refine⟨CV H hml A,fun s ⟨r,hr⟩=>?_⟩;have hlt:l<g.heap.size:=Ù hr
 have K:Θ g (g.putObj l (.loop s)):=⟨by simp[World.putObj],fun b c e q hb=>by
  rw[World.putObj_heap_other (fun e'=>by subst e'; rw[hr] at hb; cases hb)]; exact hb⟩
 have hfr:Fr (g.putObj l (.loop s)) V.defers:=by
  obtain⟨⟨ms,m1,m2,m3⟩,_,m5,m6⟩:=sB.defers;exact⟨⟨ms,m1,m2,fun k hk=>⟨(World.putObj_heap_other (fun e'=>by have:=(m3 k hk).1; rw[e',hr] at this; cases this)).trans (m3 k hk).1,(m3 k hk).2⟩⟩,fun l' C=>(by cases C; exact⟨s,by simp[World.putObj,hlt]⟩),m5,by simpa[World.putObj] using m6⟩
 have sC:Sim νb (cU p f (gz (æ v) x)) V (g.putObj l (.loop s)):=sB.ckeep K hfr (fun id k q es b hb hν=>World.putObj_heap_other (by have:=R.lt id k q es b hb hν; omega)) (lkB_all rfl _ (cU_mf _ _ _)) (lk_all rfl _ (cU_mft _ _ _))
 have evO:Ev 9 j (cS p v).h w1 νb (cU p f (gz (æ v) x)).h (g.putObj l (.loop s)):=U.own (grownBy_putObj' g l _) fun q e=>by cases e; exact hl
 have E:=LO (cP×cV);have law:=Up p f (gz (æ v) x) fun p v=>some (p,v)
 have O:rj f=d.map (gz (æ v)):=by rw[o]; rfl
 rw[O] at law;simp only[dg,cj,cz,cF,hok,ä] at law;have S:=kL E (path:=[]) rfl (Am.rfB (Am.rfC 7 đ)) 4 _ _ νb _ _ (fun h=>by rw[UV] at h; cases h) (fun z N=>by rw[UT] at N; cases N) law sC (cg (show 9<=11 by decide) (ez (cU_len p f (gz (æ v) x)).symm));refine wpIn_mono S fun e a3 Y hb=>?_;obtain⟨νc,Sc,sD,evC,lenC,ddC,kC⟩:=hb;obtain⟨rfl,p',u',B,D⟩:=yQ kC;cases D;obtain⟨Z,sE,evD,lD,dD⟩:=jI _ _ _ _ _ _ _ νc a3 Y B sD;have y:=evC.trans evD (bX _);refine⟨CV sC.heap R y,Z,?_⟩
 have Q:Đ f (d.map (gz (æ v))++[gz (æ v) x])=Đ v ((d++[x]).map (gz (æ v))):=by
  rw[o,fu]; rfl
 rw[<-Q];exact⟨Hs sE.heap,evO.trans y (bX _)⟩
noncomputable def Rj (G:Nat->Prop) (y:bl) (w:World) (e:Ending) (w':World):Prop :=
 ∃u,e=.returned u/\RR w' G [Å] y u/\(∀b,b<w.heap.size->w'.heap[b]?=w.heap[b]?)/\w.heap.size<=w'.heap.size/\w'.os=w.os/\w'.tape=w.tape/\w'.output=w.output
noncomputable def LP (u:Val (tyL jq)):bl:=((u.1,u.2.1),u.2.2.1,u.2.2.2.1,u.2.2.2.2.1,u.2.2.2.2.2.1,u.2.2.2.2.2.2)
def aa7 (p:cP) (v:cV):lC p v (fun y=>(fun u=>some (LP u)) (kF y))=lC p v some:=by kernel_rfl
def Yr (u:Val (tyL jq)):kF (LP u)=u:=by kernel_rfl
def aa2 {G:Nat->Prop} {p:cP} {v:cV} {y:bl} {ν:Nat->Value} {a:Act} {w0 W:World} {D:Nat} (H:@Sim _ (gck G w0.heap.size) ν (cS p v) a W) (hB:lC p v some=some y) (hD:W.heap[D]?=some (.deferred (some []))) (hnl:¬mq ν (cS p v).h D)
 (S:Ev 0 (fun _=>undef) [] w0 ν (cS p v).h W) (V:w0.heap.size<=D) (U:∀ms:y5 Nat,a.defers=ms.map mk1->D∉ms) :
 (Am.postC 7 đ).wpIn Fence.wide 2 Tryz.prog (bodyPostM Fence.wide 2 Tryz.prog Tryz.f51 (Rj G y w0)) {a with defers:=abY D::a.defers} W:=by
 letI:É:=gck G w0.heap.size
 have K:Sim ν (cS p v) {a with defers:=abY D::a.defers} W:=by
  obtain⟨⟨ms,m1,m2,m3⟩,m4,m5,m6⟩:=H.defers;refine⟨⟨⟨D::ms,by show abY D::a.defers=_; rw[m1]; rfl,eJ.2 ⟨?_,m2⟩,fun k q=>?_⟩,m4,m5,m6⟩,H.len,H.tmps,H.heap⟩
  ·exact U ms (m1.trans (cn _))
  ·rcases b9.1 q with rfl|q
   ·exact⟨hD,V⟩
   ·exact m3 k q
 have d:=LO bl;have r:∀L call,gN (ė bl) L call->kd (ė bl) L call:=θ hmix;have law:=NI p v fun u=>some (LP u);rw[aa7,hB] at law
 have hL:∀z∈Ñ 0 (Am.postC 7 đ),iy (ė bl) [] 51 z.1 z.2:=fun z hz =>
  Ay (E:=ė bl) hmix (tab:=oy _) rfl CG rfl 10 (bX _) (Tm _) (ľ rfl) [] 51 Tryz.f51 _ rfl Tryz.func51 oz z (SB 7 đ 0 zD hz)
 have t:=iP d (r _ _ d) rfl (Am.postC 7 đ) 0 _ _ ν _ W hL law K (cG _);rw[vx rfl] at t;refine wpIn_wide.2 (wpIn_wide.1 (wpIn_mono t fun e A W' ha=>?_));obtain⟨C,Sa,sA,Y,_,_,kA⟩:=ha;obtain⟨rfl,u,s,q⟩:=WY kA;cases q;obtain⟨νb,f,x,_,_⟩:=jI _ _ _ _ _ _ _ C A W' s sA
 have hu:â pW [] jq () u=â pW [] jq () (kF (LP u)):=by rw[Yr]
 rw[hu] at f x;have X:=(Y.trans x (bX _));obtain⟨⟨j,n1,n2,O⟩,_,n5,n6⟩:=f.defers;show LeavesInM _ _ _ _ _ _ A.defers _ _;rw[show A.defers=j.map mk1 from n1.trans (cn _)];refine jv j W' n2 (fun k q=>(O k q).1) fun J N q2 q3 q4 q5=>?_
 have R:∀(b:Nat) (o:Obj),W'.heap[b]?=some o->CD o=true\/b<(gck G w0.heap.size).B->J.heap[b]?=some o:=fun b o hb hd=>by
  have T:b∉j:=fun s=>by
   rw[(O b s).1] at hb; cases hb;rcases hd with hd|hd
   ·cases hd
   ·exact absurd hd (Nat.not_lt_zero _)
  rw[q5 b T]; exact hb
 have KG:gu (gck G w0.heap.size) νb (â pW [] jq () (kF (LP u))).h W' (gck G w0.heap.size).G J:=gu.nds q2 q3 q4 (by omega) R
 have sC:Sim νb (â pW [] jq () (kF (LP u))) {A with defers:=[]} J:=⟨⟨⟨[],rfl,dT,fun _ h=>(by cases h)⟩,fun l hl=>(by cases hl),cG _,by rw[N]; exact n6⟩,f.len,fun i=>VR.step (g:=gck G w0.heap.size) (D:=[]) (Q:=none) (M:=w0.heap.size) KG (f.tmps i),
  HR.step (g:=gck G w0.heap.size) (D:=[]) (Q:=none) (M:=w0.heap.size) KG (fun b hb=>by rw[N]; exact f.heap.ghlt b hb) (fun b hb hg=>by obtain⟨id,h1,h2⟩:=hb; exact f.heap.ghne id b h1 h2 hg) f.heap⟩
 obtain⟨Z,r1,r2⟩:=Bs sC (Qj (LP u));have c:=S.trans X (bX _);exact⟨Z,r1,Z,rfl,Ku sC.heap [Å] r2 (show T4 [Å] _ (enc Å (LP u))=some (LP u) from rfl),fun b hb=>(q5 b fun s=>by have m7:w0.heap.size<=b:=(O b s).2; omega).trans (c.keep b hb fun⟨_,h,_⟩=>by cases h).1,by rw[N]; exact c.size,q2.trans c.os,q3.trans c.tape,q4.trans c.output⟩
def aa8 (x:Val (.pair Å (.pair (.slice Â) (.slice Â)))):zE x.1 x.2.1 x.2.2 cutK=ph.F x:=by kernel_rfl
noncomputable def encG (g:cT):Value:=.agg #[.int .i64 g.1,.int .i64 g.2.1,.int .i64 g.2.2.1,.int .i64 g.2.2.2.1.1,.int .i64 g.2.2.2.1.2,.int .i64 g.2.2.2.2.1.1,.int .i64 g.2.2.2.2.1.2,.int .i64 g.2.2.2.2.2]
noncomputable def ady [É] (g:cT) (ν:Nat->Value) (h:y5 Blk) (w:World):VR ν h w (.agg (flat Ê g)) (encG g) :=
 ⟨_,rfl,⟨rfl,rfl⟩,⟨rfl,rfl⟩,⟨rfl,rfl⟩,⟨rfl,rfl⟩,⟨rfl,rfl⟩,⟨rfl,rfl⟩,⟨rfl,rfl⟩,⟨rfl,rfl⟩,trivial⟩
def aa6 (G:Nat->Prop) (x:Val (tyL ph.ts)) (y:bl) (hF:ph.F x=some y) (w:World) (vals:y5 Value) (hG:∀b,G b->b<w.heap.size) (hΦ:Globs.Φ w) (hAL:AL w G ph.ts x vals) :
 (∃fn c,Tryz.prog.funcs[51]?=some fn/\fn.body=some c)/\CallsIn Fence.wide 0 Tryz.prog 51 vals.toArray w (Rj G y w):=by
 letI:É:=gck G w.heap.size
 have hdraw:∀L call,gN (ő bl) L call->kd (ő bl) L call:=θ hmix;have M:uQ (ő bl):=Ay hmix (tab:=xG _) rfl Ql rfl;have hall:TK (ő bl) 10:=jk (fun {_} _=>BT Fo _ rfl rfl rfl rfl rfl (Ń rfl) (lh rfl) (ľ rfl)) (fun L call hE=>θ hmix L call hE) M 10 (bX _);have hEnv:gN (ő bl) 2 (ŭ (ő bl) 10):=hall (ľ rfl);have H:HR (fun _=>undef) [] w:=⟨fun _=>trivial,fun _ _ _ h=>(by cases h),hG,fun _ _ h=>(by cases h),hΦ,fun _ _ ⟨_,h,_⟩=>(by cases h)⟩;have hav:∀b,Av (fun _=>undef) [] b->G b:=fun b hb=>hb.elim (fun⟨_,h,_⟩=>by cases h) id;have K:í (VR (fun _=>undef) [] w) (Ee ph.ts x) vals:=AL.VR (hAL.mono hav);refine⟨⟨Tryz.f51,_,Tryz.func51,oz⟩,?_⟩;have hlen:vals.length=3:=K.length.symm;refine callsIn_wide.2 (callsIn_wide.1 (callsIn_of_wp_marks (n:=2) Tryz.func51 oz trivial ?_ (R:=Rj G y w)))
 have hS:Sim (fun _=>undef) {t:=Ee ph.ts x++List.replicate 127 .any,h:=[]} {tmps:=vals.toArray++Array.replicate (Tryz.f51.ntmps-vals.toArray.size) undef,defers:=[]} w:=by
  refine⟨⟨⟨[],rfl,dT,fun _ h=>(by cases h)⟩,fun l T=>(by cases T),cG _,bX _⟩,?_,fun i=>?_,H⟩
  ·have:Tryz.f51.ntmps=130:=by kernel_rfl
   have hl2:(Ee ph.ts x).length=3:=rfl;simp[this,hlen,hl2]
  ·simp only[F9];rcases cW i (Ee ph.ts x).length with hi|hi
   ·have:=í.lk (R:=VR (fun _=>undef) [] w) (fun _=>trivial) i K
    have hv:i<vals.length:=by rw[<-K.length]; exact hi
    have h2:(vals.toArray++Array.replicate (Tryz.f51.ntmps-vals.toArray.size) undef).getD i undef=vals.getD i undef:=by
     simp[cE,dU,hv]
    rw[h2]; exact this
   ·rw[Xt _ _ hi]; trivial
 have law:=(Qk x cutK).trans ((aa8 x).trans hF);refine peelN rfl hEnv (hdraw _ _ hEnv) rfl (path:=[]) rfl (fun e S hne h=>hne (yQ h).1) 7 đ _ _ _ _ zD (fun z hz=>M 10 (bX _) hall (ľ rfl) [] 51 Tryz.f51 đ rfl Tryz.func51 oz z hz) law hS (fun ν1 S1 a1 w1 s1 e1 k1=>?_);obtain⟨_,p,v,hm,hk⟩:=yQ k1;obtain⟨hrow,hk⟩:=QP hk
 cases hz:vp (æ v) (Ł v) with
 |none=>rw[hz] at hk; cases hk
 |some z =>
 rw[hz] at hk;have hB:lC p (Đ v z) some=some y:=hk;obtain⟨hzl,hzs⟩:=XE hz;obtain⟨C,s2,e2,_,_⟩:=jI _ _ _ _ _ _ _ ν1 a1 w1 hm s1;have evw:=e1.trans e2 (bX _)
 have hv0:Đ v []=v:=by rw[<-hrow]; rfl
 have d:Sim C (cS p v) a1 w1:=s2
 -- the blocks
 obtain⟨fa,fb,us,lo,co,ko,h5⟩:=cS_5 p v;have hB5:=d.heap.blk 5;rw[h5] at hB5;obtain⟨bb,cb,te,n5,hbb,hc5⟩:=hB5;have hB6:=d.heap.blk 6;rw[cS_6] at hB6;obtain⟨tb,ct,tt,n6,htb,hc6⟩:=hB6;have hl5:=hc5.length
 obtain⟨u1,u2,u3,u4,u5,u6,u7,hcb⟩:∃u1 u2 u3 u4 u5 u6 u7,cb.toList=[u1,u2,u3,u4,u5,u6,u7]:=by
  rcases hcs:cb.toList with _|⟨u1,_|⟨u2,_|⟨u3,_|⟨u4,_|⟨u5,_|⟨u6,_|⟨u7,_|⟨u8,t⟩⟩⟩⟩⟩⟩⟩⟩<;>rw[hcs] at hl5<;>simp at hl5
  exact⟨u1,u2,u3,u4,u5,u6,u7,rfl⟩
 rw[hcb] at hc5;obtain⟨_,_,hc3,_⟩:=hc5;have hg3:CR w1 (Av C (cS p v).h) (.slice Ê) (æ v) [u3]:=hc3.1;obtain⟨base,cap,Y,hcap,hgl⟩:=hg3
 have Y:u3=.slice base (æ v).length cap:=by simpa using Y
 obtain⟨N,go,X⟩:∃N go,0<(æ v).length->base=some ⟨N,go,none⟩/\¬Av C (cS p v).h N/\N<w1.heap.size/\∀(i:Nat) (g:cT),(æ v)[i]?=some g->∃us,CR w1 (Av C (cS p v).h) Ê g us/\ę w1 N (go+i*8) us:=by
  rcases hgl with hgl|⟨N,go,q1,q2,q3,q4⟩
  ·exact⟨0,0,fun h=>by rw[show(æ v)=[] from hgl] at h; simp at h⟩
  ·exact⟨N,go,fun _=>⟨q1,q2,q3,q4⟩⟩
 obtain⟨gl,E⟩:∃gl,gl=æ v:=⟨_,rfl⟩;rw[<-E] at X Y
 have hR:∀b,(0<gl.length/\b=N)->b<w1.heap.size/\¬mq C (cS p v).h b:=fun b ⟨h,e⟩=>by subst e; obtain⟨_,q2,q3,_⟩:=X h; exact⟨q3,fun T=>q2 (.inl T)⟩
 have hnd:∀s W,CI G p v C w1 s W->KNd w1 (fun b=>0<gl.length/\b=N) tb (Ł v) W:=fun s W hI=>hI.nd (Hs d.heap) hR n6
 have hI0:CI G p v C w1 [] w1:=by
  refine⟨C,?_,?_⟩
  ·rw[show Đ v (([]:y5 Nat).map (gz (æ v)))=v from hv0]; exact Hs d.heap
  ·rw[show Đ v (([]:y5 Nat).map (gz (æ v)))=v from hv0]; exact Ev.refl _ _ _ _
 have Z:=d.tmps 59;rw[cS_59] at Z
 have V:a1.tmps.getD 59 undef=.func (.func 182) #[] #[.pointer (some ⟨bb,0,none⟩),.pointer (some ⟨tb,0,none⟩)]:=by
  obtain⟨fs,cs,h1,h2,h3⟩:=Z
  have e1:fs=#[]:=by rw[<-cD]; exact h2.nil_left
  have T:=h3.length
  obtain⟨v1,v2,e2⟩:∃v1 v2,cs.toList=[v1,v2]:=by
   rcases hcs:cs.toList with _|⟨v1,_|⟨v2,_|⟨v3,t⟩⟩⟩<;>rw[hcs] at T<;>simp at T
   exact⟨v1,v2,rfl⟩
  rw[e2] at h3;have e3:v1=.pointer (some ⟨bb,0,none⟩):=uK (w:=w1) (id:=5) (off:=0) h3.1 n5;have e4:v2=.pointer (some ⟨tb,0,none⟩):=uK (w:=w1) (id:=6) (off:=0) h3.2.1 n6;rw[h1,e1];congr 1;rw[<-cD,e2,e3,e4]
 have hcbe:cb=#[u1,u2,.slice base gl.length cap,u4,u5,u6,u7]:=by rw[<-cD,hcb,Y]
 have hseq:SeqStopsK Fence.wide 1 Tryz.prog 182 #[.pointer (some ⟨bb,0,none⟩),.pointer (some ⟨tb,0,none⟩)] (fun j:Nat=>#[encG (gz gl j)]) (fun A B=>KNd w1 (fun b=>0<gl.length/\b=N) tb (Ł v) A->KNd w1 (fun b=>0<gl.length/\b=N) tb (Ł v) B)
  (fun xs=>xs=Hz (fun j=>Da (Ł v) (gz gl j).1) gl.length) (fun _=>True) (Hz (fun j=>Da (Ł v) (gz gl j).1) gl.length).length w1:=by
  intro l J Jx W U hJ hJx hY h0
  refine adc te 1 (by omega) l bb tb u1 u2 u4 u5 u6 u7 N go gl.length cap base (fun h=>(X h).1) (fun j=>(gz gl j).1) (fun j=>(gz gl j).2.1) (fun j=>(gz gl j).2.2.1) (fun j=>(gz gl j).2.2.2.1.1) (fun j=>(gz gl j).2.2.2.1.2) (fun j=>(gz gl j).2.2.2.2.1.1) (fun j=>(gz gl j).2.2.2.2.1.2) (fun j=>(gz gl j).2.2.2.2.2)
   (fun j=>Da (Ł v) (gz gl j).1) ?len (KNd w1 (fun b=>0<gl.length/\b=N) tb (Ł v)) W ((U.block bb (Ù hbb)).trans (by rw[hbb,hcbe])) ?cells ?maps (fun W1 W2 h V=>h.grown (fun b hb=>(hR b hb).1) V) ((hnd [] w1 hI0).below (fun b hb=>(hR b hb).1) U.size U.block)
   J Jx (fun s W1 W2 hj V=>hJ s W1 W2 none hj V (fun r e=>by cases e)) (fun s W1 W2 hj V=>hJx s W1 W2 none hj V (fun r e=>by cases e)) (fun s j W1 hj T=>hY s j W1 hj T) h0
  case len =>
   have:=hzl;rw[<-E] at this;simp only[Ú,decide_eq_true_eq] at this;omega
  case cells =>
   intro W' hW j hj;obtain⟨q1,q2,q3,q4⟩:=X (by omega);obtain⟨vs,r1,Q⟩:=q4 j (gz gl j) (by simp[gz,bY hj]);have Q:=Q.keep (w':=W') (hW.2.1 N ⟨by omega,rfl⟩);rw[QG r1] at Q;refine⟨?_,?_,?_,?_,?_,?_,?_,?_⟩
   ·simpa using Q 0 _ rfl
   ·simpa[dR] using Q 1 _ rfl
   ·simpa[dR] using Q 2 _ rfl
   ·simpa[dR] using Q 3 _ rfl
   ·simpa[dR] using Q 4 _ rfl
   ·simpa[dR] using Q 5 _ rfl
   ·simpa[dR] using Q 6 _ rfl
   ·simpa[dR] using Q 7 _ rfl
  case maps =>
   intro W' hW;obtain⟨_,_,h3,mb,h4,h5,h6⟩:=id hW;refine⟨.map (some mb),fun W'' V=>?_⟩;obtain⟨k1,_,k3,mb',k4,k5,k6⟩:=hW.grown (fun b hb=>(hR b hb).1) V
   have:mb'=mb:=by
    have e:=World.cell?_of_block (a:=⟨tb,0,none⟩) (V.block tb (cf h3.1 hW.1) (by simp));rw[e,h5] at k5;cases k5; rfl
   subst this;exact⟨k5,fun j _=>aax k6 _⟩
 rw[Uo];refine wpIn_block (HA (n:=2) rfl (by omega) V trivial (fun args w=>?eg) hseq (fun h k=>fun q=>k (h q)) (fun W l o o' T ho _ _ hW=>?kb) (Below.refl _ _) (fun _=>rfl) (CI G p v C w1) (CI.own (Hs d.heap)) hI0 (fun l s j W T hlo hI hlt=>?round) (fun D xs W hD hxs hI hDo=>?done))
 case eg=>simp[callFunc,Sem.run_bind,run_program,Result.andThen_ok,Tryz.func182,plain 182 _ Tryz.func182,show Tryz.f182.body.isNone=false from rfl]; rfl
 case kb=>exact hW.below (fun b hb=>(hR b hb).1) (by simp[World.putObj]) fun b hb=>World.putObj_heap_other (by omega)
 case round =>
  have hf:∀u:Value,((#[60]:Array Tmp).zip #[u]).foldl (fun t (p,v)=>t.setIfInBounds p v) a1.tmps=a1.tmps.setIfInBounds 60 u:=fun u=>by simp
  show Code.wpIn (Fence.wide.inRound l) 0 Tryz.prog _ _ ⟨((#[60]:Array Tmp).zip #[encG (gz gl j)]).foldl (fun t (p,v)=>t.setIfInBounds p v) a1.tmps,[]⟩ W;rw[hf];refine wpIn_mono (Ys d l s j W T hlo hI ?_ (u:=encG (gz gl j)) (by rw[E]; exact fun ν h w=>ady _ ν h w)) fun e a' Wa ha=>?_
  ·refine aad hzl ?_;have:=PS (fun j=>Da (Ł v) (gz gl j).1) gl.length;rw[<-E];omega
  ·cases e with
   |normal =>
    refine⟨ha.1,fun r' hr=>wpIn_mono (ha.2 r' hr) fun e a3 W3 hb=>?_⟩
    cases e with
    |normal=>exact⟨hb.1,fun _=>hnd _ _ hb.2,hb.2⟩
    |_=>exact hb
   |_=>exact ha
 case done =>
  subst hxs;obtain⟨ν',Hd0,O⟩:=hI;have Hd:=Hs (D':=[]) (Q':=none) (M':=w.heap.size) Hd0
  have hzz:(Hz (fun j=>Da (Ł v) (gz gl j).1) gl.length).map (gz (æ v))=z:=by rw[hzs,E]
  rw[hzz] at Hd O;have hml:=vc d.heap O (abt p v) (Q2 _ _) (t:=[false]) (by simp) (lkB_all rfl _ (abr _ _));have ht:(cS p (Đ v z)).t=(cS p v).t:=cS_t _ _ _
  have simD:Sim ν' (cS p (Đ v z)) a1 W:=by
   refine⟨d.defers.keep O.size (d.heap.nd O),?_,fun i=>?_,Hd⟩
   ·rw[ht]; exact d.len
   ·rw[ht]; exact VR.pin O (lk_all rfl _ (aci p v) i) (d.tmps i)
  exact aa2 simD hB hDo (JI Hd hml hD hDo rfl) (evw.trans (O.mono (cG _)) (bX _)) (cg evw.size hD) (fun ms hm hk=>by
   obtain⟨⟨ms2,m1,_,m3⟩,_⟩:=d.defers;rw[show a1.defers=ms2.map mk1 from m1.trans (cn _)] at hm
   have hinj:ms2=ms:=List.map_inj_right (f:=mk1) (fun x y e=>by cases e; rfl) |>.1 hm
   subst hinj
   have:=Ù (m3 D hk).1; omega)
def YL:Þ Tryz.prog 51 ph:=fun G x y d w vals c a b=>aa6 G x y d w vals c a b
end Go.Proofs.ZzM
end

noncomputable section
set_option maxRecDepth 100000
namespace Go.Proofs.ZzM
open Go Go.Am
def U9:ZP 16 I7:=zt (NF _) Ä rfl Ä fun x=>by kernel_rfl
def abi:ZP 5 RN:=zt (Jk _) (Á U9 Ä) rfl (Á HC Ä) fun x=>by kernel_rfl
def abp:ZP 77 RW:=zt (Jy _) (Á pA Ä) rfl (Á If Ä) fun x=>by kernel_rfl
def Pe:ZP 24 ER:=zt (jh _) (Á Ζ (Á abp (Á Iw Ä))) rfl (Á FZ (Á FY (Á FX (Á FW (Á FV Ä))))) fun x=>Lf x some
def abk:ZP 25 RP:=zt (Jm _) (Á pA Ä) rfl (Á HT Ä) fun x=>by kernel_rfl
def O9:ZP 7 EM:=zt (Fq _) (Á Pe (Á abk (Á pA Ä))) rfl Ä fun x=>K3 x some
def km:ZP 93 ů:=zt (jA _) Ä rfl Ä fun x=>by kernel_rfl
def xY:ZP 39 ny:=zt (tP _) (Á km Ä) rfl Ä fun x=>by kernel_rfl
def He:Þ Tryz.prog 160 xx:=uX (mE _) (fun {_}=>BT Ä (mE _) rfl rfl rfl rfl rfl (Ń rfl) (QJ (Á xe Ä) rfl) (ľ rfl)) hmix rfl (Á BM Ä) (jm fun x=>FQ x some)
def YU:ZP 166 Nl:=zt (FO _) (Á He Ä) rfl (Á FN Ä) fun x=>by kernel_rfl
def F4 {ρ:Type} (a:Mh Tryz.prog 168 w8):po.Ok (δ ρ):=⟨DB,a,F2,F0,by decide,F1,fun p v y kn b=>(DD p v y kn b).trans (DC p v y kn b)⟩
def YW:Þ Tryz.prog 40 No:=Wm (δ _) (fun {_}=>BT (Á Pe (Á G9 (Á mn (Á He (Á YU Ä))))) (δ _) rfl rfl rfl rfl rfl (Ń rfl) (lh rfl) (ľ rfl)) hmix rfl Ä (rtab:=CU) rfl (Á (F4 aaz) Ä) (Á F3 Ä) (jm fun x=>Lg x some)
def QW:Þ Tryz.prog 43 EL:=uX (mC _) (fun {_}=>BT Ä (mC _) rfl rfl rfl rfl rfl (Ń rfl) (QJ (Á xe Ä) rfl) (ľ rfl)) hmix rfl (Á BC Ä) (jm fun x=>Fk x some)
def YM:Þ Tryz.prog 10 Nf:=uX (rk _) (fun {_}=>BT (Á O9 (Á xY (Á YW (Á mn (Á QW Ä))))) (rk _) rfl rfl rfl rfl rfl (Ń rfl) (QJ (Á DG Ä) rfl) (ľ rfl)) hmix rfl (Á Ft Ä) (jm fun x=>K4 x some)
def LV:ZP 176 yC:=zt (tQ _) Ä rfl (Á xD Ä) fun x=>by kernel_rfl
def DH:ZP 99 sj:=zt (y0 _) (Á LV Ä) rfl Ä fun x=>by kernel_rfl
def Iy:ZP 100 wd:=zt (sm _) Ä rfl (Á vP Ä) fun x=>by kernel_rfl
def YK:ZP 44 Nc:=zt (nE _) (Á DH (Á Iy Ä)) rfl (Á Ff (Á Fe (Á Fc (Á E9 Ä)))) fun x=>by kernel_rfl
def LW:ZP 45 yD:=zt (tR _) Ä rfl (Á xE Ä) fun x=>by kernel_rfl
def LU:ZP 11 yB:=zt (E8 _) (Á YK (Á LW Ä)) rfl Ä fun x=>by kernel_rfl
def g9:ZP 128 Ő:=zt (υ _) Ä rfl (Á jJ Ä) fun x=>by kernel_rfl
def A9:ZP 58 tM:=zt (Qw _) (Á Ζ (Á Hf (Á g9 Ä))) rfl Ä fun x=>by kernel_rfl
def xZ:ZP 49 qS:=zt (KR _) (Á A9 Ä) rfl Ä fun x=>by kernel_rfl
def LY:ZP 131 DT:=zt (Ur _) Ä rfl Ä fun x=>by kernel_rfl
def A7:ZP 130 tJ:=zt (FC _) (Á LY Ä) rfl (Á FB Ä) fun x=>by kernel_rfl
def C3:ZP 143 tG:=zt (ŧ _) Ä rfl (Á zO (Á zN (Á zL (Á zM (Á zK Ä))))) fun x=>Dl x some
def YO:ZP 179 Nh:=zt (FA _) (Á A7 (Á LY (Á C3 Ä))) rfl (Á Fz Ä) fun x=>by kernel_rfl
def Vb:ZP 180 I9:=zt (gW _) Ä rfl (Á Ds (Á Dr (Á Dq (Á Dn (Á Dp Ä))))) fun x=>HY x some
def Pb:ZP 103 EO:=zt (Qq _) (Á YO (Á Vb Ä)) rfl Ä fun x=>by kernel_rfl
def xg:ZP 61 pf:=zt (Di _) (Á Pb Ä) rfl Ä fun x=>by kernel_rfl
def xf:ZP 53 pd:=zt (Dh _) (Á xZ (Á xg Ä)) rfl Ä fun x=>by kernel_rfl
def qG:ZP 54 kv:=zt (xF _) (Á xZ (Á xg Ä)) rfl Ä fun x=>by kernel_rfl
def Cj:Þ Tryz.prog 47 pJ:=uX (je _) (fun {_}=>BT (Á xf (Á qG Ä)) (je _) rfl rfl rfl rfl rfl (Ń rfl) (lh rfl) (ľ rfl)) hmix rfl Ä (jm fun x=>tS x some)
def Pd:ZP 205 CA:=zt (H8 _) (Á g9 Ä) rfl Ä fun x=>by kernel_rfl
def DI:ZP 288 sk:=zt (zT _) Ä rfl Ä fun x=>by kernel_rfl
def uJ:ZP 291 pK:=zt (FH _) (Á A8 Ä) rfl (Á FG Ä) fun x=>by kernel_rfl
def Hb:ZP 319 xv:=zt (K7 _) (Á Tt (Á YQ Ä)) rfl Ä fun x=>by kernel_rfl
def adK:ZP 309 Ws:=zt (Xc _) (Á uJ (Á Hb Ä)) rfl Ä fun x=>by kernel_rfl
def L1:ZP 289 yH:=zt (FM _) (Á adK Ä) rfl Ä fun x=>by kernel_rfl
def QY:ZP 325 P6:=zt (Xa _) Ä rfl Ä fun x=>by kernel_rfl
def xi:ZP 320 wi:=zt (Dw _) (Á uJ (Á QY Ä)) rfl Ä fun x=>by kernel_rfl
def YS:ZP 323 Wt:=zt (Xe _) (Á uJ (Á Hb Ä)) rfl Ä fun x=>by kernel_rfl
def YR:Þ Tryz.prog 310 Nj:=Wn (xJ _) (N1 _) (fun {_}=>BT (Á A8 (Á xi (Á YS (Á QY Ä)))) (xJ _) rfl rfl rfl rfl rfl (Ń rfl) (lh rfl) (ľ rfl)) (fun {_}=>libN (Á A8 (Á xi (Á YS (Á QY Ä)))) _) rfl hmix (tab:=ru _) rfl Ä (us:=CP) rfl (Á (by kernel_rfl) Ä) (jm fun x=>K9 x some)
def LZ:ZP 290 yG:=zt (FL _) (Á YR Ä) rfl Ä fun x=>by kernel_rfl
def Vd:ZP 252 Jb:=zt (N8 _) (Á Hc (Á L2 (Á DI (Á L1 (Á LZ Ä))))) rfl Ä fun x=>by kernel_rfl
def YV:ZP 253 Nn:=zt (Qv _) Ä rfl Ä fun x=>by kernel_rfl
def Pc:ZP 292 EP:=zt (Qr _) Ä rfl Ä fun x=>by kernel_rfl
def abl:ZP 254 RQ:=zt (Uu _) (Á uJ (Á Pc Ä)) rfl Ä fun x=>by kernel_rfl
def YT:ZP 255 Nk:=zt (Qt _) (Á uJ (Á Pc Ä)) rfl Ä fun x=>by kernel_rfl
def abm:ZP 209 RT:=zt (Uv _) (Á Vd (Á YV (Á abl (Á YT Ä)))) rfl Ä fun x=>by kernel_rfl
def abo:ZP 249 RV:=zt (BN _) (Á kR Ä) rfl (Á Ie (Á Ic Ä)) fun x=>by kernel_rfl
def abn:ZP 129 RU:=zt (vk _) (Á Hf (Á Tu (Á L2 (Á Pd (Á abm (Á abo Ä)))))) rfl (Á Ia (Á Ib (Á H9 Ä))) fun x=>by kernel_rfl
def qH:ZP 59 mV:=zt (Oa _) (Á Ζ (Á abn Ä)) rfl Ä fun x=>by kernel_rfl
def Tv:ZP 101 KD:=zt (JE _) (Á Ζ Ä) rfl (Á Ir Ä) fun x=>by kernel_rfl
def xh:ZP 102 pj:=zt (Dt _) (Á A7 (Á C3 Ä)) rfl Ä fun x=>by kernel_rfl
def Pa:ZP 12 Cz:=zt (wz _) (Á Cj (Á Ζ (Á A9 (Á qH (Á Tv (Á xh Ä)))))) rfl (Á zG Ä) fun x=>by kernel_rfl
def YN:ZP 104 Ng:=zt (Fy _) Ä rfl (Á Qp (Á Qn (Á Qm (Á Qo Ä)))) fun x=>by kernel_rfl
def YP:ZP 50 Ni:=zt (rt _) (Á Pb (Á YN Ä)) rfl (Á FF (Á FD (Á FE Ä))) fun x=>by kernel_rfl
def LX:ZP 48 yE:=zt (Fw _) (Á xZ (Á YP Ä)) rfl Ä fun x=>by kernel_rfl
def QV:ZP 52 EK:=zt (zc _) (Á qH Ä) rfl (Á BB Ä) fun x=>by kernel_rfl
def QX:Þ Tryz.prog 13 EN:=uX (jP _) (fun {_}=>BT (Á LX (Á YL (Á QV (Á xf (Á qG (Á Ζ (Á A9 (Á qH (Á Tv (Á xh Ä)))))))))) (jP _) rfl rfl rfl rfl rfl (Ń rfl) (lh rfl) (ľ rfl)) hmix rfl (Á BG (Á BF Ä)) (jm fun x=>Fv x some)
def Ha:ZP 132 xu:=zt (zP _) Ä rfl (Á BI Ä) fun x=>by kernel_rfl
def Ts:ZP 133 Kz:=zt (Jo _) Ä rfl (Á HX Ä) fun x=>by kernel_rfl
def IB:ZP 60 wh:=zt (Dv _) (Á A7 (Á LY (Á Ha (Á Ts Ä)))) rfl Ä fun x=>by kernel_rfl
def A6:ZP 15 qT:=zt (Fu _) (Á Ζ (Á A9 (Á qH (Á IB Ä)))) rfl Ä fun x=>by kernel_rfl
def IA:ZP 118 wg:=zt (Du _) (Á A7 (Á Ha (Á Ts Ä))) rfl Ä fun x=>by kernel_rfl
def Iz:ZP 56 we:=zt (Dk _) (Á Ζ (Á qH (Á IA Ä))) rfl Ä fun x=>by kernel_rfl
def mh:ZP 243 π:=zt (Α _) Ä rfl (Á jd Ä) fun x=>by kernel_rfl
def kj:ZP 194 Ů:=zt (jz _) (Á mh Ä) rfl Ä fun x=>by kernel_rfl
def pB:ZP 245 iH:=zt (gR _) Ä rfl (Á ky Ä) fun x=>by kernel_rfl
def mP:ZP 197 gH:=zt (lz _) (Á pB Ä) rfl Ä fun x=>by kernel_rfl
def oa:ZP 247 gQ:=zt (χ _) Ä rfl (Á jK Ä) fun x=>by kernel_rfl
def lU:ZP 200 Κ:=zt (ki _) (Á oa Ä) rfl Ä fun x=>by kernel_rfl
def abj:ZP 57 RO:=zt (ş _) (Á kj (Á mP (Á lU Ä))) rfl (Á HQ (Á HN (Á HM (Á HO (Á HP (Á HL (Á HK (Á HJ (Á HI (Á HH Ä)))))))))) fun x=>NH x some
def Va:ZP 14 I8:=zt (NQ _) (Á A6 (Á Ζ (Á Iz (Á abj Ä)))) rfl Ä fun x=>by kernel_rfl
end Go.Proofs.ZzM
end
