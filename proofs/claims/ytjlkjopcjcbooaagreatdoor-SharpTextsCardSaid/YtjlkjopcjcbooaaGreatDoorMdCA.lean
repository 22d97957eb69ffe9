/- lemmas -/
import Derived.Test.YtjlkjopcjcbooaaGreatDoorAmE
import Derived.Test.YtjlkjopcjcbooaaGreatDoorAmF
import Derived.Test.YtjlkjopcjcbooaaGreatDoorAmD
import Derived.Ground.NamesProg
import Derived.Ground.Names2Prog
import Derived.KernelRfl
import Derived.Test.YtjlkjopcjcbooaaGreatDoorMdMA
import Derived.Shelf.Small.Strs
import Derived.Shelf.Strconv.Itoa3
import Derived.Shelf.Strconv.AtoiAll
import Derived.Shelf.Strings.Prefix
import Derived.Shelf.Strings.Split
import Derived.Shelf.Strings.OnBuilder
import Derived.Test.YtjlkjopcjcbooaaGreatDoorAmC
import Derived.Test.YtjlkjopcjcbooaaGreatDoorAmG
import Derived.RangeFuncLeaves
import Derived.WalkKit
import Derived.OwnWalkIn
import Derived.TacticsInMore
import Derived.LoopNIn
import Derived.LoopIn
import Derived.Test.YtjlkjopcjcbooaaGreatDoorMdKA
import Derived.RangeFuncBox
import Derived.Lib.SliceRun
import Derived.Test.YtjlkjopcjcbooaaGreatDoorProg
import Derived.RangeFuncFrom
import Derived.RangeFuncRecord
import Derived.Test.YtjlkjopcjcbooaaGreatDoorMdKB
set_option linter.all false
noncomputable section
namespace Go.Proofs
open Go.Shelf
def Tryz.laysSort_ren:Go.Shelf.Ren:=⟨fun|189=>240|125=>287|257=>286|128=>308|129=>261|294=>299|295=>300|296=>301|297=>302|298=>303|299=>304|216=>305|300=>306|301=>307|328=>311|329=>312|330=>313|331=>314|332=>315|215=>316|343=>324|n=>n,fun|28=>33|3=>3|46=>307|0=>0|51=>305|53=>260|4=>4|183=>346|182=>345|131=>298|5=>5|9=>9|218=>359|222=>363|228=>371|229=>372|n=>n,fun|n=>n⟩
def Tryz.laysSort:Go.Proofs.Lays.n189 Tryz.prog Tryz.laysSort_ren:={
 mixed:=by kernel_rfl
 f125:=Tryz.func287.trans (congrArg some (by kernel_rfl))
 f128:=Tryz.func308.trans (congrArg some (by kernel_rfl))
 f129:=Tryz.func261.trans (congrArg some (by kernel_rfl))
 f189:=Tryz.func240.trans (congrArg some (by kernel_rfl))
 f215:=Tryz.func316.trans (congrArg some (by kernel_rfl))
 f216:=Tryz.func305.trans (congrArg some (by kernel_rfl))
 f257:=Tryz.func286.trans (congrArg some (by kernel_rfl))
 f294:=Tryz.func299.trans (congrArg some (by kernel_rfl))
 f295:=Tryz.func300.trans (congrArg some (by kernel_rfl))
 f296:=Tryz.func301.trans (congrArg some (by kernel_rfl))
 f297:=Tryz.func302.trans (congrArg some (by kernel_rfl))
 f298:=Tryz.func303.trans (congrArg some (by kernel_rfl))
 f299:=Tryz.func304.trans (congrArg some (by kernel_rfl))
 f300:=Tryz.func306.trans (congrArg some (by kernel_rfl))
 f301:=Tryz.func307.trans (congrArg some (by kernel_rfl))
 f328:=Tryz.func311.trans (congrArg some (by kernel_rfl))
 f329:=Tryz.func312.trans (congrArg some (by kernel_rfl))
 f330:=Tryz.func313.trans (congrArg some (by kernel_rfl))
 f331:=Tryz.func314.trans (congrArg some (by kernel_rfl))
 f332:=Tryz.func315.trans (congrArg some (by kernel_rfl))
 f343:=Tryz.func324.trans (congrArg some (by kernel_rfl))
 t0:=Tryz.underlying0
 a0:=Tryz.isAgg0
 z0:=Tryz.sizeOf0
 v0:=Tryz.zeroValue0
 t3:=Tryz.underlying3
 a3:=Tryz.isAgg3
 z3:=Tryz.sizeOf3
 v3:=Tryz.zeroValue3
 t4:=Tryz.underlying4
 a4:=Tryz.isAgg4
 z4:=Tryz.sizeOf4
 v4:=Tryz.zeroValue4
 t5:=Tryz.underlying5
 a5:=Tryz.isAgg5
 z5:=Tryz.sizeOf5
 v5:=Tryz.zeroValue5
 t9:=Tryz.underlying9
 a9:=Tryz.isAgg9
 z9:=Tryz.sizeOf9
 v9:=Tryz.zeroValue9
 t28:=Tryz.underlying33
 a28:=Tryz.isAgg33
 z28:=Tryz.sizeOf33
 v28:=Tryz.zeroValue33
 t46:=Tryz.underlying307
 a46:=Tryz.isAgg307
 z46:=Tryz.sizeOf307
 v46:=Tryz.zeroValue307
 t51:=Tryz.underlying305
 a51:=Tryz.isAgg305
 z51:=Tryz.sizeOf305
 v51:=Tryz.zeroValue305
 t53:=Tryz.underlying260
 a53:=Tryz.isAgg260
 z53:=Tryz.sizeOf260
 v53:=Tryz.zeroValue260
 t131:=Tryz.underlying298
 a131:=Tryz.isAgg298
 z131:=Tryz.sizeOf298
 v131:=Tryz.zeroValue298
 t182:=Tryz.underlying345
 a182:=Tryz.isAgg345
 z182:=Tryz.sizeOf345
 v182:=Tryz.zeroValue345
 t183:=Tryz.underlying346
 a183:=Tryz.isAgg346
 z183:=Tryz.sizeOf346
 v183:=Tryz.zeroValue346
 t218:=Tryz.underlying359
 a218:=Tryz.isAgg359
 z218:=Tryz.sizeOf359
 v218:=Tryz.zeroValue359
 t222:=Tryz.underlying363
 a222:=Tryz.isAgg363
 z222:=Tryz.sizeOf363
 v222:=Tryz.zeroValue363
 t228:=Tryz.underlying371
 a228:=Tryz.isAgg371
 z228:=Tryz.sizeOf371
 v228:=Tryz.zeroValue371
 t229:=Tryz.underlying372
 a229:=Tryz.isAgg372
 z229:=Tryz.sizeOf372
 v229:=Tryz.zeroValue372}
def Tryz.laysCompact_ren:Go.Shelf.Ren:=⟨fun|20=>241|n=>n,fun|22=>33|3=>3|4=>4|0=>0|n=>n,fun|n=>n⟩
def Tryz.laysCompact:Go.Proofs.Lays2.n20 Tryz.prog Tryz.laysCompact_ren:={
 mixed:=by kernel_rfl
 f20:=Tryz.func241.trans (congrArg some (by kernel_rfl))
 t0:=Tryz.underlying0
 a0:=Tryz.isAgg0
 z0:=Tryz.sizeOf0
 v0:=Tryz.zeroValue0
 t3:=Tryz.underlying3
 a3:=Tryz.isAgg3
 z3:=Tryz.sizeOf3
 v3:=Tryz.zeroValue3
 t4:=Tryz.underlying4
 a4:=Tryz.isAgg4
 z4:=Tryz.sizeOf4
 v4:=Tryz.zeroValue4
 t22:=Tryz.underlying33
 a22:=Tryz.isAgg33
 z22:=Tryz.sizeOf33
 v22:=Tryz.zeroValue33
 i3:=by kernel_rfl}
def Tryz.laysIndexByte_ren:Go.Shelf.Ren:=⟨fun|137=>169|217=>222|266=>269|n=>n,fun|9=>9|5=>5|3=>3|n=>n,fun|n=>n⟩
def Tryz.laysIndexByte:Go.Proofs.Lays.n137 Tryz.prog Tryz.laysIndexByte_ren:={
 mixed:=by kernel_rfl
 f137:=Tryz.func169.trans (congrArg some (by kernel_rfl))
 f217:=Tryz.func222.trans (congrArg some (by kernel_rfl))
 f266:=Tryz.func269.trans (congrArg some (by kernel_rfl))
 t3:=Tryz.underlying3
 a3:=Tryz.isAgg3
 z3:=Tryz.sizeOf3
 v3:=Tryz.zeroValue3
 t5:=Tryz.underlying5
 a5:=Tryz.isAgg5
 z5:=Tryz.sizeOf5
 v5:=Tryz.zeroValue5
 t9:=Tryz.underlying9
 a9:=Tryz.isAgg9
 z9:=Tryz.sizeOf9
 v9:=Tryz.zeroValue9}
def Tryz.laysItoa_ren:Go.Shelf.Ren:=⟨fun|171=>26|243=>79|246=>148|283=>213|284=>214|285=>215|286=>216|129=>261|317=>260|318=>262|319=>263|320=>264|337=>293|338=>294|n=>n,fun|3=>3|9=>9|2=>2|4=>4|171=>259|0=>0|53=>260|37=>153|5=>5|173=>263|212=>304|51=>305|20=>20|213=>306|46=>307|232=>357|233=>358|n=>n,fun|17=>0|18=>6|19=>7|n=>n⟩
def Tryz.laysItoa:Go.Proofs.LaysM.n171 Tryz.prog Tryz.laysItoa_ren:={
 mixed:=by kernel_rfl
 f129:=Tryz.func261.trans (congrArg some (by kernel_rfl))
 f171:=Tryz.func26.trans (congrArg some (by kernel_rfl))
 f243:=Tryz.func79.trans (congrArg some (by kernel_rfl))
 f246:=Tryz.func148.trans (congrArg some (by kernel_rfl))
 f283:=Tryz.func213.trans (congrArg some (by kernel_rfl))
 f284:=Tryz.func214.trans (congrArg some (by kernel_rfl))
 f285:=Tryz.func215.trans (congrArg some (by kernel_rfl))
 f286:=Tryz.func216.trans (congrArg some (by kernel_rfl))
 f317:=Tryz.func260.trans (congrArg some (by kernel_rfl))
 f318:=Tryz.func262.trans (congrArg some (by kernel_rfl))
 f319:=Tryz.func263.trans (congrArg some (by kernel_rfl))
 f320:=Tryz.func264.trans (congrArg some (by kernel_rfl))
 f337:=Tryz.func293.trans (congrArg some (by kernel_rfl))
 f338:=Tryz.func294.trans (congrArg some (by kernel_rfl))
 t0:=Tryz.underlying0
 a0:=Tryz.isAgg0
 z0:=Tryz.sizeOf0
 v0:=Tryz.zeroValue0
 t2:=Tryz.underlying2
 a2:=Tryz.isAgg2
 z2:=Tryz.sizeOf2
 v2:=Tryz.zeroValue2
 t3:=Tryz.underlying3
 a3:=Tryz.isAgg3
 z3:=Tryz.sizeOf3
 v3:=Tryz.zeroValue3
 t4:=Tryz.underlying4
 a4:=Tryz.isAgg4
 z4:=Tryz.sizeOf4
 v4:=Tryz.zeroValue4
 t5:=Tryz.underlying5
 a5:=Tryz.isAgg5
 z5:=Tryz.sizeOf5
 v5:=Tryz.zeroValue5
 t9:=Tryz.underlying9
 a9:=Tryz.isAgg9
 z9:=Tryz.sizeOf9
 v9:=Tryz.zeroValue9
 t20:=Tryz.underlying20
 a20:=Tryz.isAgg20
 z20:=Tryz.sizeOf20
 v20:=Tryz.zeroValue20
 t37:=Tryz.underlying153
 a37:=Tryz.isAgg153
 z37:=Tryz.sizeOf153
 v37:=Tryz.zeroValue153
 t46:=Tryz.underlying307
 a46:=Tryz.isAgg307
 z46:=Tryz.sizeOf307
 v46:=Tryz.zeroValue307
 t51:=Tryz.underlying305
 a51:=Tryz.isAgg305
 z51:=Tryz.sizeOf305
 v51:=Tryz.zeroValue305
 t53:=Tryz.underlying260
 a53:=Tryz.isAgg260
 z53:=Tryz.sizeOf260
 v53:=Tryz.zeroValue260
 t171:=Tryz.underlying259
 a171:=Tryz.isAgg259
 z171:=Tryz.sizeOf259
 v171:=Tryz.zeroValue259
 t173:=Tryz.underlying263
 a173:=Tryz.isAgg263
 z173:=Tryz.sizeOf263
 v173:=Tryz.zeroValue263
 t212:=Tryz.underlying304
 a212:=Tryz.isAgg304
 z212:=Tryz.sizeOf304
 v212:=Tryz.zeroValue304
 t213:=Tryz.underlying306
 a213:=Tryz.isAgg306
 z213:=Tryz.sizeOf306
 t232:=Tryz.underlying357
 a232:=Tryz.isAgg357
 z232:=Tryz.sizeOf357
 v232:=Tryz.zeroValue357
 t233:=Tryz.underlying358
 a233:=Tryz.isAgg358
 z233:=Tryz.sizeOf358
 v233:=Tryz.zeroValue358
 g17:=by kernel_rfl
 g18:=by kernel_rfl
 g19:=by kernel_rfl
 i0:=by kernel_rfl
 i2:=by kernel_rfl
 i3:=by kernel_rfl
 i4:=by kernel_rfl
 i5:=by kernel_rfl
 i9:=by kernel_rfl
 i20:=by kernel_rfl
 i37:=by kernel_rfl
 i46:=by kernel_rfl
 i51:=by kernel_rfl
 i53:=by kernel_rfl
 i171:=by kernel_rfl
 i173:=by kernel_rfl
 i212:=by kernel_rfl
 i232:=by kernel_rfl
 i233:=by kernel_rfl
 m17:=by kernel_rfl
 m18:=by kernel_rfl
 m19:=by kernel_rfl}
def Tryz.laysAtoi_ren:Go.Shelf.Ren:=⟨fun|172=>98|244=>174|245=>175|247=>227|279=>228|280=>229|281=>230|282=>231|287=>274|316=>275|171=>26|205=>276|321=>297|322=>298|243=>79|246=>148|283=>213|284=>214|285=>215|286=>216|129=>261|317=>260|318=>262|319=>263|320=>264|337=>293|338=>294|n=>n,fun|9=>9|3=>3|75=>164|76=>165|4=>4|5=>5|167=>275|37=>153|0=>0|85=>276|2=>2|168=>278|53=>260|175=>311|46=>307|210=>315|127=>258|145=>343|143=>341|21=>21|171=>259|173=>263|212=>304|51=>305|20=>20|213=>306|232=>357|233=>358|80=>222|n=>n,fun|15=>2|16=>3|17=>0|18=>6|19=>7|n=>n⟩
def Tryz.laysAtoi:Go.Proofs.LaysC.n172 Tryz.prog Tryz.laysAtoi_ren:={
 mixed:=by kernel_rfl
 f129:=Tryz.func261.trans (congrArg some (by kernel_rfl))
 f171:=Tryz.func26.trans (congrArg some (by kernel_rfl))
 f172:=Tryz.func98.trans (congrArg some (by kernel_rfl))
 f205:=Tryz.func276.trans (congrArg some (by kernel_rfl))
 f243:=Tryz.func79.trans (congrArg some (by kernel_rfl))
 f244:=Tryz.func174.trans (congrArg some (by kernel_rfl))
 f245:=Tryz.func175.trans (congrArg some (by kernel_rfl))
 f246:=Tryz.func148.trans (congrArg some (by kernel_rfl))
 f247:=Tryz.func227.trans (congrArg some (by kernel_rfl))
 f279:=Tryz.func228.trans (congrArg some (by kernel_rfl))
 f280:=Tryz.func229.trans (congrArg some (by kernel_rfl))
 f281:=Tryz.func230.trans (congrArg some (by kernel_rfl))
 f282:=Tryz.func231.trans (congrArg some (by kernel_rfl))
 f283:=Tryz.func213.trans (congrArg some (by kernel_rfl))
 f284:=Tryz.func214.trans (congrArg some (by kernel_rfl))
 f285:=Tryz.func215.trans (congrArg some (by kernel_rfl))
 f286:=Tryz.func216.trans (congrArg some (by kernel_rfl))
 f287:=Tryz.func274.trans (congrArg some (by kernel_rfl))
 f316:=Tryz.func275.trans (congrArg some (by kernel_rfl))
 f317:=Tryz.func260.trans (congrArg some (by kernel_rfl))
 f318:=Tryz.func262.trans (congrArg some (by kernel_rfl))
 f319:=Tryz.func263.trans (congrArg some (by kernel_rfl))
 f320:=Tryz.func264.trans (congrArg some (by kernel_rfl))
 f321:=Tryz.func297.trans (congrArg some (by kernel_rfl))
 f322:=Tryz.func298.trans (congrArg some (by kernel_rfl))
 f337:=Tryz.func293.trans (congrArg some (by kernel_rfl))
 f338:=Tryz.func294.trans (congrArg some (by kernel_rfl))
 t0:=Tryz.underlying0
 a0:=Tryz.isAgg0
 z0:=Tryz.sizeOf0
 v0:=Tryz.zeroValue0
 t2:=Tryz.underlying2
 a2:=Tryz.isAgg2
 z2:=Tryz.sizeOf2
 v2:=Tryz.zeroValue2
 t3:=Tryz.underlying3
 a3:=Tryz.isAgg3
 z3:=Tryz.sizeOf3
 v3:=Tryz.zeroValue3
 t4:=Tryz.underlying4
 a4:=Tryz.isAgg4
 z4:=Tryz.sizeOf4
 v4:=Tryz.zeroValue4
 t5:=Tryz.underlying5
 a5:=Tryz.isAgg5
 z5:=Tryz.sizeOf5
 v5:=Tryz.zeroValue5
 t9:=Tryz.underlying9
 a9:=Tryz.isAgg9
 z9:=Tryz.sizeOf9
 v9:=Tryz.zeroValue9
 t20:=Tryz.underlying20
 a20:=Tryz.isAgg20
 z20:=Tryz.sizeOf20
 v20:=Tryz.zeroValue20
 t21:=Tryz.underlying21
 a21:=Tryz.isAgg21
 z21:=Tryz.sizeOf21
 v21:=Tryz.zeroValue21
 t37:=Tryz.underlying153
 a37:=Tryz.isAgg153
 z37:=Tryz.sizeOf153
 v37:=Tryz.zeroValue153
 t46:=Tryz.underlying307
 a46:=Tryz.isAgg307
 z46:=Tryz.sizeOf307
 v46:=Tryz.zeroValue307
 t51:=Tryz.underlying305
 a51:=Tryz.isAgg305
 z51:=Tryz.sizeOf305
 v51:=Tryz.zeroValue305
 t53:=Tryz.underlying260
 a53:=Tryz.isAgg260
 z53:=Tryz.sizeOf260
 v53:=Tryz.zeroValue260
 t75:=Tryz.underlying164
 a75:=Tryz.isAgg164
 z75:=Tryz.sizeOf164
 v75:=Tryz.zeroValue164
 t76:=Tryz.underlying165
 a76:=Tryz.isAgg165
 z76:=Tryz.sizeOf165
 v76:=Tryz.zeroValue165
 t85:=Tryz.underlying276
 a85:=Tryz.isAgg276
 z85:=Tryz.sizeOf276
 v85:=Tryz.zeroValue276
 t127:=Tryz.underlying258
 a127:=Tryz.isAgg258
 z127:=Tryz.sizeOf258
 v127:=Tryz.zeroValue258
 t143:=Tryz.underlying341
 a143:=Tryz.isAgg341
 z143:=Tryz.sizeOf341
 v143:=Tryz.zeroValue341
 t145:=Tryz.underlying343
 a145:=Tryz.isAgg343
 z145:=Tryz.sizeOf343
 v145:=Tryz.zeroValue343
 t167:=Tryz.underlying275
 a167:=Tryz.isAgg275
 z167:=Tryz.sizeOf275
 v167:=Tryz.zeroValue275
 t168:=Tryz.underlying278
 a168:=Tryz.isAgg278
 z168:=Tryz.sizeOf278
 v168:=Tryz.zeroValue278
 t171:=Tryz.underlying259
 a171:=Tryz.isAgg259
 z171:=Tryz.sizeOf259
 v171:=Tryz.zeroValue259
 t173:=Tryz.underlying263
 a173:=Tryz.isAgg263
 z173:=Tryz.sizeOf263
 v173:=Tryz.zeroValue263
 t175:=Tryz.underlying311
 a175:=Tryz.isAgg311
 z175:=Tryz.sizeOf311
 v175:=Tryz.zeroValue311
 t210:=Tryz.underlying315
 a210:=Tryz.isAgg315
 z210:=Tryz.sizeOf315
 v210:=Tryz.zeroValue315
 t212:=Tryz.underlying304
 a212:=Tryz.isAgg304
 z212:=Tryz.sizeOf304
 v212:=Tryz.zeroValue304
 t213:=Tryz.underlying306
 a213:=Tryz.isAgg306
 z213:=Tryz.sizeOf306
 t232:=Tryz.underlying357
 a232:=Tryz.isAgg357
 z232:=Tryz.sizeOf357
 v232:=Tryz.zeroValue357
 t233:=Tryz.underlying358
 a233:=Tryz.isAgg358
 z233:=Tryz.sizeOf358
 v233:=Tryz.zeroValue358
 g15:=by kernel_rfl
 g16:=by kernel_rfl
 g17:=by kernel_rfl
 g18:=by kernel_rfl
 g19:=by kernel_rfl
 t80:=Tryz.underlying222
 a80:=Tryz.isAgg222
 z80:=Tryz.sizeOf222
 v80:=Tryz.zeroValue222
 i0:=by kernel_rfl
 i2:=by kernel_rfl
 i3:=by kernel_rfl
 i4:=by kernel_rfl
 i5:=by kernel_rfl
 i9:=by kernel_rfl
 i20:=by kernel_rfl
 i21:=by kernel_rfl
 i37:=by kernel_rfl
 i46:=by kernel_rfl
 i51:=by kernel_rfl
 i53:=by kernel_rfl
 i75:=by kernel_rfl
 i76:=by kernel_rfl
 i80:=by kernel_rfl
 i85:=by kernel_rfl
 i127:=by kernel_rfl
 i143:=by kernel_rfl
 i145:=by kernel_rfl
 i167:=by kernel_rfl
 i168:=by kernel_rfl
 i171:=by kernel_rfl
 i173:=by kernel_rfl
 i175:=by kernel_rfl
 i210:=by kernel_rfl
 i212:=by kernel_rfl
 i232:=by kernel_rfl
 i233:=by kernel_rfl
 m15:=by kernel_rfl
 m16:=by kernel_rfl
 m17:=by kernel_rfl
 m18:=by kernel_rfl
 m19:=by kernel_rfl
 c0:=by kernel_rfl
 c2:=by kernel_rfl
 c3:=by kernel_rfl
 c4:=by kernel_rfl
 c5:=by kernel_rfl
 c9:=by kernel_rfl
 c20:=by kernel_rfl
 c21:=by kernel_rfl
 c37:=by kernel_rfl
 c46:=by kernel_rfl
 c51:=by kernel_rfl
 c53:=by kernel_rfl
 c75:=by kernel_rfl
 c76:=by kernel_rfl
 c80:=by kernel_rfl
 c85:=by kernel_rfl
 c127:=by kernel_rfl
 c143:=by kernel_rfl
 c145:=by kernel_rfl
 c167:=by kernel_rfl
 c168:=by kernel_rfl
 c171:=by kernel_rfl
 c173:=by kernel_rfl
 c175:=by kernel_rfl
 c210:=by kernel_rfl
 c212:=by kernel_rfl
 c213:=by kernel_rfl
 c232:=by kernel_rfl
 c233:=by kernel_rfl}
def Tryz.laysTrimSuffix_ren:Go.Shelf.Ren:=⟨fun|102=>42|209=>97|207=>173|n=>n,fun|9=>9|4=>4|3=>3|n=>n,fun|n=>n⟩
def Tryz.laysTrimSuffix:Go.Proofs.Lays.n102 Tryz.prog Tryz.laysTrimSuffix_ren:={
 mixed:=by kernel_rfl
 f102:=Tryz.func42.trans (congrArg some (by kernel_rfl))
 f207:=Tryz.func173.trans (congrArg some (by kernel_rfl))
 f209:=Tryz.func97.trans (congrArg some (by kernel_rfl))
 t3:=Tryz.underlying3
 a3:=Tryz.isAgg3
 z3:=Tryz.sizeOf3
 v3:=Tryz.zeroValue3
 t4:=Tryz.underlying4
 a4:=Tryz.isAgg4
 z4:=Tryz.sizeOf4
 v4:=Tryz.zeroValue4
 t9:=Tryz.underlying9
 a9:=Tryz.isAgg9
 z9:=Tryz.sizeOf9
 v9:=Tryz.zeroValue9}
def Tryz.laysSplit_ren:Go.Shelf.Ren:=⟨fun|146=>41|221=>96|268=>170|138=>171|143=>172|195=>223|197=>224|218=>225|219=>226|260=>270|217=>222|225=>271|224=>272|267=>273|266=>269|314=>296|n=>n,fun|9=>9|31=>88|3=>3|4=>4|0=>0|105=>273|21=>21|5=>5|46=>307|119=>334|139=>337|138=>336|146=>338|51=>305|n=>n,fun|1=>1|3=>4|4=>5|n=>n⟩
def Tryz.laysSplit:Go.Proofs.Lays.n146 Tryz.prog Tryz.laysSplit_ren:={
 mixed:=by kernel_rfl
 f138:=Tryz.func171.trans (congrArg some (by kernel_rfl))
 f143:=Tryz.func172.trans (congrArg some (by kernel_rfl))
 f146:=Tryz.func41.trans (congrArg some (by kernel_rfl))
 f195:=Tryz.func223.trans (congrArg some (by kernel_rfl))
 f197:=Tryz.func224.trans (congrArg some (by kernel_rfl))
 f217:=Tryz.func222.trans (congrArg some (by kernel_rfl))
 f218:=Tryz.func225.trans (congrArg some (by kernel_rfl))
 f219:=Tryz.func226.trans (congrArg some (by kernel_rfl))
 f221:=Tryz.func96.trans (congrArg some (by kernel_rfl))
 f224:=Tryz.func272.trans (congrArg some (by kernel_rfl))
 f225:=Tryz.func271.trans (congrArg some (by kernel_rfl))
 f260:=Tryz.func270.trans (congrArg some (by kernel_rfl))
 f266:=Tryz.func269.trans (congrArg some (by kernel_rfl))
 f267:=Tryz.func273.trans (congrArg some (by kernel_rfl))
 f268:=Tryz.func170.trans (congrArg some (by kernel_rfl))
 f314:=Tryz.func296.trans (congrArg some (by kernel_rfl))
 t0:=Tryz.underlying0
 a0:=Tryz.isAgg0
 z0:=Tryz.sizeOf0
 v0:=Tryz.zeroValue0
 t3:=Tryz.underlying3
 a3:=Tryz.isAgg3
 z3:=Tryz.sizeOf3
 v3:=Tryz.zeroValue3
 t4:=Tryz.underlying4
 a4:=Tryz.isAgg4
 z4:=Tryz.sizeOf4
 v4:=Tryz.zeroValue4
 t5:=Tryz.underlying5
 a5:=Tryz.isAgg5
 z5:=Tryz.sizeOf5
 v5:=Tryz.zeroValue5
 t9:=Tryz.underlying9
 a9:=Tryz.isAgg9
 z9:=Tryz.sizeOf9
 v9:=Tryz.zeroValue9
 t21:=Tryz.underlying21
 a21:=Tryz.isAgg21
 z21:=Tryz.sizeOf21
 v21:=Tryz.zeroValue21
 t31:=Tryz.underlying88
 a31:=Tryz.isAgg88
 z31:=Tryz.sizeOf88
 v31:=Tryz.zeroValue88
 t46:=Tryz.underlying307
 a46:=Tryz.isAgg307
 z46:=Tryz.sizeOf307
 v46:=Tryz.zeroValue307
 t51:=Tryz.underlying305
 a51:=Tryz.isAgg305
 z51:=Tryz.sizeOf305
 v51:=Tryz.zeroValue305
 t105:=Tryz.underlying273
 a105:=Tryz.isAgg273
 z105:=Tryz.sizeOf273
 v105:=Tryz.zeroValue273
 t119:=Tryz.underlying334
 a119:=Tryz.isAgg334
 z119:=Tryz.sizeOf334
 t138:=Tryz.underlying336
 a138:=Tryz.isAgg336
 z138:=Tryz.sizeOf336
 v138:=Tryz.zeroValue336
 t139:=Tryz.underlying337
 a139:=Tryz.isAgg337
 z139:=Tryz.sizeOf337
 v139:=Tryz.zeroValue337
 t146:=Tryz.underlying338
 a146:=Tryz.isAgg338
 z146:=Tryz.sizeOf338
 v146:=Tryz.zeroValue338
 g1:=by kernel_rfl
 g3:=by kernel_rfl
 g4:=by kernel_rfl}
def Tryz.laysJoin_ren:Go.Shelf.Ren:=⟨fun|156=>78|165=>145|166=>146|169=>147|240=>211|241=>212|276=>258|277=>259|n=>n,fun|31=>88|9=>9|3=>3|4=>4|0=>0|20=>20|72=>220|76=>165|70=>218|37=>153|75=>164|127=>258|164=>300|5=>5|80=>222|n=>n,fun|n=>n⟩
def Tryz.laysJoin:Go.Proofs.Lays.n156 Tryz.prog Tryz.laysJoin_ren:={
 mixed:=by kernel_rfl
 f156:=Tryz.func78.trans (congrArg some (by kernel_rfl))
 f165:=Tryz.func145.trans (congrArg some (by kernel_rfl))
 f166:=Tryz.func146.trans (congrArg some (by kernel_rfl))
 f169:=Tryz.func147.trans (congrArg some (by kernel_rfl))
 f240:=Tryz.func211.trans (congrArg some (by kernel_rfl))
 f241:=Tryz.func212.trans (congrArg some (by kernel_rfl))
 f276:=Tryz.func258.trans (congrArg some (by kernel_rfl))
 f277:=Tryz.func259.trans (congrArg some (by kernel_rfl))
 t0:=Tryz.underlying0
 a0:=Tryz.isAgg0
 z0:=Tryz.sizeOf0
 v0:=Tryz.zeroValue0
 t3:=Tryz.underlying3
 a3:=Tryz.isAgg3
 z3:=Tryz.sizeOf3
 v3:=Tryz.zeroValue3
 t4:=Tryz.underlying4
 a4:=Tryz.isAgg4
 z4:=Tryz.sizeOf4
 v4:=Tryz.zeroValue4
 t9:=Tryz.underlying9
 a9:=Tryz.isAgg9
 z9:=Tryz.sizeOf9
 v9:=Tryz.zeroValue9
 t20:=Tryz.underlying20
 a20:=Tryz.isAgg20
 z20:=Tryz.sizeOf20
 v20:=Tryz.zeroValue20
 t31:=Tryz.underlying88
 a31:=Tryz.isAgg88
 z31:=Tryz.sizeOf88
 v31:=Tryz.zeroValue88
 t37:=Tryz.underlying153
 a37:=Tryz.isAgg153
 z37:=Tryz.sizeOf153
 v37:=Tryz.zeroValue153
 t70:=Tryz.underlying218
 a70:=Tryz.isAgg218
 z70:=Tryz.sizeOf218
 v70:=Tryz.zeroValue218
 t72:=Tryz.underlying220
 a72:=Tryz.isAgg220
 z72:=Tryz.sizeOf220
 v72:=Tryz.zeroValue220
 t75:=Tryz.underlying164
 a75:=Tryz.isAgg164
 z75:=Tryz.sizeOf164
 v75:=Tryz.zeroValue164
 t76:=Tryz.underlying165
 a76:=Tryz.isAgg165
 z76:=Tryz.sizeOf165
 v76:=Tryz.zeroValue165
 t127:=Tryz.underlying258
 a127:=Tryz.isAgg258
 z127:=Tryz.sizeOf258
 v127:=Tryz.zeroValue258
 t164:=Tryz.underlying300
 a164:=Tryz.isAgg300
 z164:=Tryz.sizeOf300
 v164:=Tryz.zeroValue300}
end Go.Proofs
end

noncomputable section
namespace Go.Proofs
end Go.Proofs
namespace Go.Proofs.ZzM
open Go Go.Am Go.RowKit
set_option maxRecDepth 100000
end Go.Proofs.ZzM
namespace Go.Proofs
def Tryz.builderX:Builder.Extra Tryz.prog Tryz.laysJoin_ren:=⟨⟨by kernel_rfl,by kernel_rfl⟩,Tryz.underlying5,Tryz.isAgg5,Tryz.sizeOf5,Tryz.zeroValue5,by kernel_rfl,by kernel_rfl,by kernel_rfl,by decide⟩
end Go.Proofs
namespace Go.Proofs.ZzM
open Go Go.Am Go.RowKit
abbrev gMax:Nat:=Tryz.laysSplit_ren.g 1
abbrev gSyn:Nat:=Tryz.laysAtoi_ren.g 15
abbrev gRng:Nat:=Tryz.laysAtoi_ren.g 16
def gMax_lt:gMax<Tryz.prog.globals.size:=of_decide_eq_true (by kernel_rfl)
def WV:gSyn<Tryz.prog.globals.size:=of_decide_eq_true (by kernel_rfl)
def WW:gRng<Tryz.prog.globals.size:=of_decide_eq_true (by kernel_rfl)
abbrev gPow : Nat := (Tryz.prog.globalNamed "internal/strconv.uint64pow10").getD 0
def WY : Tryz.prog.globalNamed "internal/strconv.uint64pow10" = some gPow := by kernel_rfl
def WX:gPow<Tryz.prog.globals.size:=of_decide_eq_true (by kernel_rfl)
def RN (w:World) (g:Nat):Prop:=∃ev,w.cell? ⟨g,0,none⟩=some ev/\(ev=.nilIface\/∃a b,ev=.iface a b)
structure GlobW (w:World):Prop where
 pow : Lib.TabIs Tryz.prog w "internal/strconv.uint64pow10" .u64 Lib.pow10Tab
 max:∃m,w.cell? ⟨gMax,0,none⟩=some (.int .i64 m)
 syn:RN w gSyn
 rng:RN w gRng
 cel:∀b,b<Tryz.prog.globals.size->∃c e r,w.heap[b]?=some (.cells c e r)
def CC {w w':World} {b:Nat} (h:w'.heap[b]?=w.heap[b]?) (i:Nat):w'.cell? ⟨b,i,none⟩=w.cell? ⟨b,i,none⟩:=by
 unfold World.cell?; simp only[h]
instance:Globs where
 n:=Tryz.prog.globals.size
 Φ:=GlobW
 keep:=fun w w' H a=>by
  obtain⟨c,⟨m,h2⟩,⟨k,i,g⟩,⟨j,f,e⟩,d⟩:=H;refine⟨?_,⟨m,(CC (a _ gMax_lt) 0).trans h2⟩,⟨k,(CC (a _ WV) 0).trans i,g⟩,⟨j,(CC (a _ WW) 0).trans f,e⟩,fun b hb=>by rw[a b hb]; exact d b hb⟩;unfold Lib.TabIs World.var? at c ⊢;rw[WY] at c ⊢;simp only[Option.bind_some] at c ⊢;rw[a _ WX]; exact c
 cel:=fun w H=>H.cel
def LM (w:World) (t:TypeId) (x:ByteArray):Below w.heap.size w (Lib.bytesWorld w t x):=⟨rfl,rfl,rfl,by rw[Lib.bytesWorld_size]; omega,fun j a=>Lib.bytesWorld_at_old w t x j a⟩
def fItoa:Tryz.laysItoa_ren.f 171=26:=by kernel_rfl
def fTrim:Tryz.laysTrimSuffix_ren.f 102=42:=by kernel_rfl
def fIndex:Tryz.laysIndexByte_ren.f 137=169:=by kernel_rfl
def VM:Tryz.laysSplit_ren.f 146=41:=by kernel_rfl
def fJoin:Tryz.laysJoin_ren.f 156=78:=by kernel_rfl
def tS:Ý Tryz.prog 169 fI:=f6 ⟨_,_,Tryz.func169,rfl⟩ fun G x y g w vals j b a=>by
 obtain⟨v1,vs,rfl,i,v2,rfl,h2⟩:=a;rw[xu i,SZ h2];have c:some (Lib.indexByte x.1.data.toList x.2.toNat.toUInt8)=some y:=g;cases c;have:=Any.strings_IndexByte Tryz.laysIndexByte x.1 x.2 w;rw[fIndex] at this;exact this.mono fun e w' ⟨f,d⟩=>⟨_,f,int_arg _ _,by rw[d]; exact Below.refl _ _⟩
def ja:Ý Tryz.prog 42 Ω:=f6 ⟨_,_,Tryz.func42,rfl⟩ fun G x y a w vals j c b=>by
 obtain⟨v1,vs,rfl,i,v2,rfl,h2⟩:=b;rw[xu i,xu h2];have a:PS x.1 x.2=some y:=a;unfold PS at a
 split at a<;>cases a
 rename_i f;have:=Any.strings_TrimSuffix Tryz.laysTrimSuffix x.1 x.2 w f;rw[fTrim] at this;exact this.mono fun e w' ⟨g,d⟩=>⟨_,g,Fw _,by rw[d]; exact Below.refl _ _⟩
def l6:Ý Tryz.prog 26 ik:=f6 ⟨_,_,Tryz.func26,rfl⟩ fun G x y a w vals o c f=>by
 obtain⟨v1,rfl,j⟩:=f;rw[SZ j];have a:Rq x=some y:=a;unfold Rq at a
 split at a<;>cases a
 rename_i d;simp only[i64B,bn,decide_eq_true_eq] at d;have:=Any.strconv_Itoa Tryz.laysItoa x d.1 d.2 w c.pow;rw[fItoa] at this;exact this.mono fun e w' ⟨i, k, os, g⟩ => ⟨_, i, Fw _, by rw [g]; exact ⟨rfl, rfl, rfl, by simp [«Sort».grow, World.drewN], fun b hb => by simp [«Sort».grow, World.drewN, cI, hb]⟩⟩
def CE:Ý Tryz.prog 41 oR:=f6 ⟨_,_,Tryz.func41,rfl⟩ fun G x y b w vals k d f=>by
 obtain⟨v1,vs,rfl,o,v2,rfl,h2⟩:=f;rw[xu o,xu h2];have b:oK x.1 x.2=some y:=b;unfold oK at b
 split at b<;>cases b
 rename_i c;simp only[bn,decide_eq_true_eq] at c;obtain⟨m,i⟩:=d.max;have:=Any.strings_Split Tryz.laysSplit (by kernel_rfl) x.1 x.2 m w c.1 i c.2;rw[VM] at this;have a:=Lib.splitB_all x.2 c.2 0 _ x.1 rfl;exact this.mono fun e w' ⟨j,g⟩=>⟨_,j,by rw[g,<-a]; exact TO (World.alloc_heap_new w _) (fun hb=>absurd (k _ hb) (Nat.lt_irrefl _)) rfl,by rw[g]; exact(Below.refl _ _).alloc (bm _) _⟩
def y0:XOk Tryz.prog 41 .split:=show LS Tryz.prog 41 from⟨⟨_,_,Tryz.func41,rfl⟩,fun w s a y d f=>by
 unfold oK at f
 split at f<;>cases f
 rename_i c;simp only[bn,decide_eq_true_eq] at c;obtain⟨m,i⟩:=d.max;have:=Any.strings_Split Tryz.laysSplit (by kernel_rfl) s a m w c.1 i c.2;rw[VM] at this;have b:=Lib.splitB_all a c.2 0 _ s rfl
 exact this.mono fun e w' ⟨j,g⟩=>⟨by rw[j,b],_,g⟩⟩
def DL:Ý Tryz.prog 78 rL:=f6 ⟨_,_,Tryz.func78,rfl⟩ fun G x y c w vals r j i=>by
 obtain⟨v1,vs,rfl,q,v2,rfl,h2⟩:=i;obtain⟨xs,a⟩:=x;rw[xu h2];obtain⟨base,cap,rfl,k,p⟩:=Vi q;have c:Ro xs a=some y:=c;unfold Ro at c
 split at c<;>cases c
 rename_i f;simp only[bn,decide_eq_true_eq] at f;rcases p with rfl|⟨b,o,rfl,hb,hcells⟩
 ·have:=Any.strings_Join_none Tryz.laysJoin Tryz.builderX base cap a w;rw[fJoin] at this;exact this.mono fun e w' ⟨g,d⟩=>⟨_,g,Fw _,by rw[d]; exact Below.refl _ _⟩
 ·have:=Any.strings_Join Tryz.laysJoin Tryz.builderX b o cap xs a w hcells hb f.1 k f.2;rw[fJoin] at this;exact this.mono fun e w' ⟨g,d⟩=>⟨_,g,Fw _,d⟩
def W6:Tryz.laysAtoi_ren.f 172=98:=by kernel_rfl
def sO:XOk Tryz.prog 98 .atoi:=show Tu Tryz.prog 98 from⟨⟨_,_,Tryz.func98,rfl⟩,fun w s r a f=>by
 unfold Pz at f
 split at f<;>cases f
 rename_i d;have d:=of_decide_eq_true d
 cases ha:Lib.atoiAll s.data.toList with
 |ok v =>
  have:=Any.strconv_Atoi_ok Tryz.laysAtoi s (by omega) v ha w;rw[W6] at this;refine this.mono fun e w' ⟨c,b⟩=>⟨.nilIface,c,rfl,fun _=>rfl,fun h=>(by cases h),?_⟩;rcases b with rfl|⟨t,rfl⟩
  ·exact Below.refl _ _
  ·exact LM _ _ _
 | range =>
  obtain⟨ev,g,h2⟩:=a.rng;have:=Any.strconv_Atoi_range Tryz.laysAtoi s d ha ev w g h2;rw[W6] at this
  exact this.mono fun e w' ⟨N,c,_,_,b⟩=>⟨_,c,rfl,fun h=>(by cases h),fun _=>⟨_,_,rfl⟩,b⟩
 | _ =>
  obtain⟨ev,g,h2⟩:=a.syn;have:=Any.strconv_Atoi_syntax Tryz.laysAtoi s d ha ev w g h2;rw[W6] at this;exact this.mono fun e w' ⟨N,c,_,_,b⟩=>⟨_,c,rfl,fun h=>(by cases h),fun _=>⟨_,_,rfl⟩,b⟩⟩
end Go.Proofs.ZzM
end

noncomputable section
namespace Go.Proofs.ZzM
open Go Go.Am
def hmix:Tryz.prog.follows .mixedOrders=true:=by kernel_rfl
def plain_ : (Tryz.prog.funcs.toList.all fun fn => !(fn.name == "runtime.NumGoroutine")) = true := by kernel_rfl
def plain (f : Nat) (fn : Func) (h : Tryz.prog.funcs[f]? = some fn) : (fn.name == "runtime.NumGoroutine") = false := by
 have:=bI.1 plain_ fn (bJ (i:=f) (by simpa using h));simpa using this
def Wi:Tryz.laysSort_ren.f 189=240:=by kernel_rfl
def N8:Tryz.laysCompact_ren.f 20=241:=by kernel_rfl
section
variable [È] {ρ:Type}
def sortOk (f:Nat) (a:ET f=true) (h:th Blk) (x:AV) (K:AV->th Blk->so ρ) (q:ρ) (e:Fz h x K=some q) (ν:Nat->Value) (w:World) (u:Value) (H:HR ν h w) (b:VR ν h w x u):wy Tryz.prog f ν h w [u] K q:=by
 have c:f=240:=by
  unfold ET at a
  split at a
  ·rfl
  ·cases a
 subst c;have:=V7 Tryz.laysSort e H b ⟨_,rfl⟩
 rwa [Wi] at this
def Sf (f:Nat) (a:mE f=true) (h:th Blk) (x:AV) (K:AV->th Blk->so ρ) (q:ρ) (e:jD h x K=some q) (ν:Nat->Value) (w:World) (u:Value) (H:HR ν h w) (b:VR ν h w x u):wy Tryz.prog f ν h w [u] K q:=by
 have c:f=241:=by
  unfold mE at a
  split at a
  ·rfl
  ·cases a
 subst c;have:=Pa Tryz.laysCompact e H b ⟨_,rfl⟩
 rwa [N8] at this
def Xh:xz Tryz.prog wZ:=by
 intro g c fz S nid x v d e ν w u H a b hd;unfold wZ at c
 split at c
 ·exact rk Tryz.func112 (T:=33) (by kernel_rfl) (by kernel_rfl) e H a b hd
 ·exact rk Tryz.func277 (T:=24) (by kernel_rfl) (by kernel_rfl) e H a b hd
 ·exact rk Tryz.func278 (T:=25) (by kernel_rfl) (by kernel_rfl) e H a b hd
 ·exact rk Tryz.func279 (T:=26) (by kernel_rfl) (by kernel_rfl) e H a b hd
 ·exact rk Tryz.func280 (T:=28) (by kernel_rfl) (by kernel_rfl) e H a b hd
 ·exact rk Tryz.func281 (T:=27) (by kernel_rfl) (by kernel_rfl) e H a b hd
 ·cases c
def DJ {pt:th (Nat×ą)} (h:∀e∈pt,Ý Tryz.prog e.1 e.2) (E:Env ρ) (b:E.P=Tryz.prog) (k:E.pure=GD pt) (h2:E.sort=ET) (j:E.compact=mE) (i:E.clone=wZ) (g:NM E) (d:∀f X,E.ext f=some X->J7 E.P f X) (c:Ŭ E):wx E:=by
 constructor
 ·intro f p a;rw[k] at a;rw[b];exact h (f,p) (E6 a)
 ·intro f a;rw[h2] at a;rw[b];exact sortOk f a
 ·intro f a;rw[j] at a;rw[b];exact Sf f a
 ·rw[b]; exact plain
 ·rw[b,i]; exact Xh
 ·exact g
 ·exact c
 ·exact d
def libN {pt:th (Nat×ą)} (h:∀e∈pt,Ý Tryz.prog e.1 e.2) (tab:th (ġ ρ)):wx (î pt tab):=DJ h _ rfl rfl rfl rfl rfl (Œ rfl) (nO rfl) (ō rfl)
end
abbrev ZP (f:Nat) (p:ą):Prop:=Ý Tryz.prog f p
def zt {f:Nat} {p:ą} {pt:th (Nat×ą)} {tab:th (ġ (Val (tyL p.rs)))} (E:Env (Val (tyL p.rs))) (b:∀e∈pt,Ý Tryz.prog e.1 e.2) (c:E=î pt tab) (a:∀x∈tab,x.Ok E) (law:∀x:Val (tyL p.ts),TK E f (zx p.ts x) (fun h v=>Â (N7 p.rs h v) some)=p.F x):Ý Tryz.prog f p:=by
 subst c;exact qt (î pt tab) (fun {_}=>libN b _) hmix (tab:=tab) rfl a (gR law)
end Go.Proofs.ZzM
end

noncomputable section
namespace Go.Proofs.ZzM
open Go Go.Am Go.RowKit
set_option maxRecDepth 100000
noncomputable def lfC:Code->Code
 |.seq a _=>a
 |_=>.skip
noncomputable def lsC:Code->Code
 |.seq _ b=>b
 |_=>.skip
noncomputable def lbC:Code->Code
 |.block _ b=>b
 |_=>.skip
noncomputable def llC:Code->Code
 |.loop b=>b
 |_=>.skip
noncomputable def liB:Code:=Tryz.f168.body.getD .skip
noncomputable def li0:Code:=lfC (llC (lbC liB))
noncomputable def li1:Code:=lbC (lsC (llC (lbC liB)))
noncomputable def liR:Code:=lfC li1
noncomputable def liM:Code:=lfC (lsC li1)
noncomputable def liY:Code:=lfC (lsC (lsC li1))
noncomputable def liC:Code:=lsC (lsC (lsC li1))
def liB_eq:liB=.block 0 (.loop (.seq li0 (.block 1 (.seq liR (.seq liM (.seq liY liC)))))):=by kernel_rfl
def VJ:Tryz.f168.body=some liB:=by kernel_rfl
noncomputable def liE (ρ:Type):Env ρ:={P:=Tryz.prog,eat:=fun _ _=>false,clone:=fun _=>false,sort:=fun _=>false,compact:=fun _=>false,inl:=fun _=>false,fz:=fun _=>false,pure:=GD [(169,fI)],loops:=Μ [],ranges:=π []}
abbrev liT:Type:=Exit×AV×AV×AV×th Blk×Nat×Bool
def liK (e:Exit) (S:St):so liT:=some (e,lk S.t 0,lk S.t 1,lk S.t 3,S.h,S.t.length,true)
def liS (s:ByteArray) (x:AV):St:={t:=[.yld,.box 0 0,.any,x]++List.replicate 21 .any,h:=[.cells [.str s]]}
def li_0 (s:ByteArray):goC (liE liT) (Ō (liE liT) 10) 168 [] 1 0 li0 (liS s .any) liK=ifb (igt (yr s.size) 0) (some (.normal,.yld,.box 0 0,.any,[.cells [.str s]],25,true)) (some (.exit 0,.yld,.box 0 0,.any,[.cells [.str s]],25,true)):=by kernel_rfl
def li_R (s:ByteArray):goC (liE liT) (Ō (liE liT) 10) 168 [] 1 1 liR (liS s .any) liK=some (.normal,.yld,.box 0 0,.str ⟨#[]⟩,[.cells [.str s]],25,true):=by kernel_rfl
noncomputable def Uv (s:ByteArray) (r:Int):so liT :=
 ifb (ige r 0) (match decide (0<=PO (r+1))&&decide (PO (r+1)<=s.size) with
  |true=>match decide (0<=PO (r+1))&&decide (PO (r+1)<=s.size) with
   |true=>some (.normal,.yld,.box 0 0,.str (s.extract 0 (PO (r+1)).toNat),[.cells [.str (s.extract (PO (r+1)).toNat s.size)]],25,true)
   |false=>none
  |false=>none) (some (.normal,.yld,.box 0 0,.str s,[.cells [.str ⟨#[]⟩]],25,true))
def li_M (s:ByteArray):goC (liE liT) (Ō (liE liT) 10) 168 [] 1 1 liM (liS s .any) liK=Uv s (Lib.indexByte s.data.toList ((10:Int).toNat.toUInt8)):=by kernel_rfl
def li_C (s:ByteArray) (b:Bool):goC (liE liT) (Ō (liE liT) 10) 168 [] 1 1 liC {(liS s .any) with t:=upd (liS s .any).t 24 (.bool b)} liK=ifb b (some (.ret,.yld,.box 0 0,.any,[.cells [.str s]],25,true)) (some (.normal,.yld,.box 0 0,.any,[.cells [.str s]],25,true)):=by kernel_rfl
noncomputable def liP (k:Nat):String:=match liY with
 | .region _ ops _ => ((ops[k]?).map fun o => o.pos).getD ""
 | _ => ""
def liY_eq:liY=.region 6 #[{dst:=some 21,op:=.move (.tmp 0),type:=233,pos:=liP 0,after:=#[],guard:=none},{dst:=some 22,op:=.move (.tmp 3),type:=9,pos:=liP 1,after:=#[],guard:=none},{dst:=some 23,op:=.call ⟨.value (.tmp 21),#[.tmp 22],#[9]⟩,type:=4,pos:=liP 2,after:=#[⟨0,.data⟩,⟨1,.data⟩],guard:=none},{dst:=some 24,op:=.unOp .not 4 (.tmp 23),type:=4,pos:=liP 3,after:=#[⟨2,.data⟩],guard:=none}] false:=by kernel_rfl
attribute [local go_sem] Oper.semAt_some
set_option maxHeartbeats 1000000 in
def li_Y {l:Nat} {y:ByteArray} {a:Act} {W:World} {R:Ending->World->Prop} {Q:Exit->Act->World->Prop} (h0:a.tmps.getD 0 undef=.func (.yield l) #[] #[]) (h3:a.tmps.getD 3 undef=.string y) (hs:25<=a.tmps.size) (hY:YieldAt Fence.wide 0 Tryz.prog l #[.string y] W R)
 (hR:∀e W',R e W'->∃b,e=.returned (.bool b)/\∀a':Act,a'.defers=a.defers->a'.tmps.size=a.tmps.size->a'.tmps.getD 0 undef=a.tmps.getD 0 undef->a'.tmps.getD 1 undef=a.tmps.getD 1 undef->a'.tmps.getD 24 undef=.bool (!b)->Q .normal a' W'):liY.wpIn Fence.wide 0 Tryz.prog Q a W:=by
 obtain⟨fn,tmps,assign,body,hy,hR2⟩:=hY;obtain⟨T,D⟩:=a;dsimp only at *;rw[liY_eq];rw[Array.getD_eq_getD_getElem?] at h3
 gi_wp2
 rename_i K hK q1;refine⟨rfl,RoundIn.mono (show RoundIn Fence.wide 0 Tryz.prog _ _ _ _ _ _ _ from hR2) fun e W' he=>?_⟩;obtain⟨b,rfl,hb⟩:=hR e W' he;apply hK
 gi_wp2
 refine hb _ rfl (by simp) ?_ ?_ ?_
 ·simp[bM,b7]
 ·simp[bM,b7]
 ·simp[bM,b7,show 24<T.size by omega]
def hmixL:Tryz.prog.follows .mixedOrders=true:=by kernel_rfl
def Wm : (Tryz.prog.funcs.toList.all fun fn => !(fn.name == "runtime.NumGoroutine")) = true := by kernel_rfl
def plainL (f : Nat) (fn : Func) (h : Tryz.prog.funcs[f]? = some fn) : (fn.name == "runtime.NumGoroutine") = false := by
 have:=bI.1 Wm fn (bJ (i:=f) (by simpa using h));simpa using this
def li_lib [È] (b:Ŭ (liE liT)):wx (liE liT) where
 pure:=fun f p h=>by
  have a:GD [(169,fI)] f=some p:=h;unfold GD at a
  split at a
  ·rename_i hb;cases a;obtain rfl:=bt hb;exact tS
  ·cases a
 sort:=fun f h=>by cases h
 compact:=fun f h=>by cases h
 plain:=plainL
 clone:=fun g c=>by cases c
 joins:=Œ rfl
 yld:=b
 ext:=fun f X h=>by cases h
def QF [È] {path:th Nat} {fid bid:Nat} {b:LI}:Χ (liE liT) path fid bid b:=by
 cases b with
 |lp b=>exact fun m S K r ν a w e=>by cases e
 |rf g ps x y=>exact fun m S K r ν a w e=>by cases e
def VI [È]:Ÿ (liE liT) 2 (Ō (liE liT) 10) :=
 ij (fun {_} b=>li_lib b) (fun L call a=>Α hmixL L call a) (fun n d a _ _ path f fn c _ _ _ z _=>QF) 10 (bm _) (ō rfl)
def VH:∀(n i:Nat),lk (List.replicate n AV.any) i=.any
 |0,i=>by cases i<;>rfl
 |n+1,0=>rfl
 |n+1,i+1=>VH n i
def WP (s:ByteArray) (i:Nat):lk (liS s .any).t (i+2)=.any:=by
 rcases i with _|_|i
 ·rfl
 ·rfl
 ·exact VH 21 i
structure LY (n0 l b0:Nat) (s:ByteArray) (a:Act) (W:World):Prop where
 defers:∃ms:th Nat,a.defers=ms.map mk1/\ms.Nodup/\∀k∈ms,W.heap[k]?=some (.deferred (some []))/\n0<=k
 size0:n0<=W.heap.size
 size:25<=a.tmps.size
 t0:a.tmps.getD 0 undef=.func (.yield l) #[] #[]
 t1:a.tmps.getD 1 undef=.pointer (some ⟨b0,0,none⟩)
 box:∃te,W.heap[b0]?=some (.cells #[.string s] te (0,0))
 glob:Globs.Φ W
@[reducible] def Gl (n0 l:Nat):È:=⟨fun _=>False,[],none,n0,l,0,.unit,fun _ _ _ _=>False,fun _ _ _ _ _ _ h=>h.elim⟩
def LY.sim {n0 l b0:Nat} {s:ByteArray} {a:Act} {W:World} (H:LY n0 l b0 s a W) (c:¬b0<Globs.n):@Sim _ (Gl n0 l) (fun _=>.pointer (some ⟨b0,0,none⟩)) (liS s .any) a W:=by
 letI g:È:=Gl n0 l
 obtain⟨f,hb⟩:=H.box;obtain⟨ms,q,p,o⟩:=H.defers;refine⟨⟨⟨ms,by rw[q]; exact(bH _).symm,p,fun k u=>o k u⟩,fun l t=>(by cases t),bO _,H.size0⟩,H.size,fun i=>?_,?_⟩
 ·rcases i with _|_|i
  ·exact H.t0
  ·exact⟨[.str s],b0,rfl,rfl,H.t1⟩
  ·rw[WP]; trivial
 ·refine⟨fun i=>?_,fun i j b hi e _ _=>?_,fun _ h=>h.elim,fun _ _ _ _ h=>h,H.glob,fun b d ⟨i,hi,r⟩=>?_⟩
  ·rcases i with _|i
   ·exact⟨b0,#[.string s],f,rfl,hb,⟨⟨rfl,rfl⟩,trivial⟩⟩
   ·rw[show lkB (liS s .any).h (i+1)=.dead from oi _ _ (Nat.succ_le_succ (bO i))]; trivial
  ·rcases i with _|i
   ·rcases j with _|j
    ·rfl
    ·rw[show lkB (liS s .any).h (j+1)=.dead from oi _ _ (Nat.succ_le_succ (bO j))] at e; cases e
   ·rw[show lkB (liS s .any).h (i+1)=.dead from oi _ _ (Nat.succ_le_succ (bO i))] at hi; cases hi
  ·cases r; exact c d
structure yk (b0:Nat) (W W':World):Prop where
 size:W.heap.size<=W'.heap.size
 same:∀b,b<W.heap.size->b≠b0->W'.heap[b]?=W.heap[b]?
 os:W'.os=W.os
 tape:W'.tape=W.tape
 output:W'.output=W.output
noncomputable def B0 {n0 l b0:Nat} {S:St} {s s':ByteArray} {a:Act} {W:World} {c:Code} {bid:Nat} {e:Exit} {x:AV} (o:@Sim _ (Gl n0 l) (fun _=>.pointer (some ⟨b0,0,none⟩)) S a W) (A:S.h=[.cells [.str s]]) (O:n0<=W.heap.size) (t:Õ bid c=[])
 (law:goC (liE liT) (Ō (liE liT) 10) 168 [] 1 bid c S liK=some (e,.yld,.box 0 0,x,[.cells [.str s']],25,true)) :
 c.wpIn Fence.wide 0 Tryz.prog (fun D v W'=>D=e/\LY n0 l b0 s' v W'/\(∀y,x=.str y->v.tmps.getD 3 undef=.string y)/\yk b0 W W') a W:=by
 letI g:È:=Gl n0 l
 have k:=ψ (VI) (Α hmixL _ _ VI) (path:=[]) rfl c bid S liK (fun _=>.pointer (some ⟨b0,0,none⟩)) a W (by rw[t]; exact fun _ h=>by cases h) law o (by rw[A]; exact bm 1);rw[qO rfl] at k;refine wpIn_mono k fun D v W' ha=>?_;obtain⟨ν',S',f,d,g3,g4,Y⟩:=ha;rw[A] at d;have p:=Option.some.inj Y;simp only[Prod.mk.injEq] at p;obtain⟨rfl,M,k1,k3,L,Z,_⟩:=p;have j:ν' 0=.pointer (some ⟨b0,0,none⟩):=(d.blk 0 (by decide)).2;have B:=f.heap.blk 0;rw[L] at B;obtain⟨b,c,E,C,h2,X⟩:=B;rw[j] at C;cases C;obtain⟨u,V,U⟩:=X.one;have T:u=.string s':=U.1
 have R:c=#[.string s']:=by rw[<-bL,V,T]
 rw[R] at h2;have t0:=f.tmps 0;rw[M] at t0;have t1:=f.tmps 1;rw[k1] at t1;obtain⟨_,b',_,z,G⟩:=t1;rw[j] at z;cases z;obtain⟨⟨ms,K,J,H⟩,_⟩:=f.defers;have q:=f.tmps 3;rw[k3] at q;refine⟨rfl,⟨⟨ms,K.trans (bH _),J,H⟩,by have:=d.size; omega,by have:=f.len; omega,t0,G,⟨E,h2⟩,f.heap.glob⟩,fun y N=>by rw[N] at q; exact q,⟨d.size,fun b hb r=>(d.keep b hb ?_).1,d.os,d.tape,d.output⟩⟩;rintro⟨i,hi,Q⟩;cases Q;exact r rfl
noncomputable def qE {n0 l b0:Nat} {s s':ByteArray} {a:Act} {W:World} {c:Code} {bid:Nat} {e:Exit} {x:AV} (d:¬b0<Globs.n) (b:Õ bid c=[])
 (law:goC (liE liT) (Ō (liE liT) 10) 168 [] 1 bid c (liS s .any) liK=some (e,.yld,.box 0 0,x,[.cells [.str s']],25,true)) (H:LY n0 l b0 s a W) :
 c.wpIn Fence.wide 0 Tryz.prog (fun g f W'=>g=e/\LY n0 l b0 s' f W'/\(∀y,x=.str y->f.tmps.getD 3 undef=.string y)/\yk b0 W W') a W :=
 B0 (H.sim d) rfl H.size0 b law
def EQ {n:Nat} {s:ByteArray} (h:s.size=0):i7 n s=[]:=by
 cases n with
 |zero=>rfl
 |succ n=>unfold i7; rw[if_pos h]
def LY.sim24 {n0 l b0:Nat} {s:ByteArray} {a:Act} {W:World} {b:Bool} (H:LY n0 l b0 s a W) (d:¬b0<Globs.n) (hb:a.tmps.getD 24 undef=.bool b):@Sim _ (Gl n0 l) (fun _=>.pointer (some ⟨b0,0,none⟩)) {(liS s .any) with t:=upd (liS s .any).t 24 (.bool b)} a W:=by
 letI g:È:=Gl n0 l
 have c:=H.sim d;refine⟨c.defers,?_,fun i=>?_,c.heap⟩
 ·show(upd (liS s .any).t 24 (.bool b)).length<=_;rw[wW]; exact c.len
 ·show VR _ _ _ (lk (upd (liS s .any).t 24 (.bool b)) i) _;rw[M7]
  split
  ·rename_i hi;rw[hi.1]; exact hb
  ·exact c.tmps i
def Q2:Õ 0 li0=[]:=by kernel_rfl
def loopsR:Õ 1 liR=[]:=by kernel_rfl
def VF:Õ 1 liM=[]:=by kernel_rfl
def VG:Õ 1 liC=[]:=by kernel_rfl
def res82:Tryz.f168.results=#[]:=by kernel_rfl
noncomputable def yk.trans {b0:Nat} {A B C:World} (h:yk b0 A B) (k:yk b0 B C):yk b0 A C :=
 ⟨bB h.size k.size,fun b hb a=>(k.same b (bu hb h.size) a).trans (h.same b hb a),k.os.trans h.os,k.tape.trans h.tape,k.output.trans h.output⟩
noncomputable def liL:Code:=.seq li0 (.block 1 (.seq liR (.seq liM (.seq liY liC))))
structure LiI (n0 l b0:Nat) (I:th ByteArray->World->Prop) (Ix:World->Prop):Prop where
 gn:¬b0<Globs.n
 phi:∀rest W,I rest W->Globs.Φ W
 phx:∀W,Ix W->Globs.Φ W
 hI:∀rest W W' v,I rest W->W.heap.size<=W'.heap.size->(∀b,b<W.heap.size->b≠b0->W'.heap[b]?=W.heap[b]?\/(n0<=b/\∃ds:so (th Deferred),W.heap[b]?=some (.deferred ds)))->(∃te,W'.heap[b0]?=some (.cells #[v] te (0,0)))->W'.os=W.os->W'.tape=W.tape->W'.output=W.output->I rest W'
 hIx:∀W W' v,Ix W->W.heap.size<=W'.heap.size->(∀b,b<W.heap.size->b≠b0->W'.heap[b]?=W.heap[b]?\/(n0<=b/\∃ds:so (th Deferred),W.heap[b]?=some (.deferred ds)))->(∃te,W'.heap[b0]?=some (.cells #[v] te (0,0)))->W'.os=W.os->W'.tape=W.tape->W'.output=W.output->Ix W'
 hY:∀y rest W v,I (y::rest) W->(∃te,W.heap[b0]?=some (.cells #[v] te (0,0)))->YieldAt Fence.wide 0 Tryz.prog l #[.string y] W fun e W'=>W.heap.size<=W'.heap.size/\W'.heap[b0]?=W.heap[b0]?/\(∀(k:Nat) (ds:so (th Deferred)),W.heap[k]?=some (.deferred ds)->W'.heap[k]?=some (.deferred ds))/\((e=.returned (.bool true)/\I rest W')\/(e=.returned (.bool false)/\Ix W'))
section
variable {n0 l b0:Nat} {I:th ByteArray->World->Prop} {Ix:World->Prop}
abbrev LiR (b0:Nat) (I:th ByteArray->World->Prop) (Ix:World->Prop) (e:Ending) (W':World):Prop:=∃u s',e=.returned u/\(∃te,W'.heap[b0]?=some (.cells #[.string s'] te (0,0)))/\(I [] W'\/Ix W')
abbrev LiQ (b0:Nat) (I:th ByteArray->World->Prop) (Ix:World->Prop):Exit->Act->World->Prop:=bodyPostM Fence.wide 0 Tryz.prog Tryz.f168 (LiR b0 I Ix)
noncomputable def LiI.stepI (h:LiI n0 l b0 I Ix) {rest:th ByteArray} {s':ByteArray} {a:Act} {W W':World} (hI:I rest W) (k:yk b0 W W') (H:LY n0 l b0 s' a W'):I rest W' :=
 h.hI rest W W' _ hI k.size (fun b hb c=>.inl (k.same b hb c)) H.box k.os k.tape k.output
def LiI.stepX (h:LiI n0 l b0 I Ix) {s':ByteArray} {a:Act} {W W':World} (hI:Ix W) (k:yk b0 W W') (H:LY n0 l b0 s' a W'):Ix W' :=
 h.hIx W W' _ hI k.size (fun b hb c=>.inl (k.same b hb c)) H.box k.os k.tape k.output
def Rj (h:LiI n0 l b0 I Ix) {s:ByteArray} {a:Act} {W:World} (H:LY n0 l b0 s a W) (i:I [] W\/Ix W):LeavesInM Fence.wide 0 Tryz.prog Tryz.f168 a.tmps (LiR b0 I Ix) a.defers .returning W:=by
 obtain⟨ms,x,v,g⟩:=H.defers;obtain⟨f,hb⟩:=H.box;rw[x];refine fU ms W v (fun k y=>(g k y).1) fun W' u t r p o=>?_
 have j:b0∉ms:=fun e=>by
  have:=(g b0 e).1;rw[hb] at this; cases this
 have d:∀b,b<W.heap.size->b≠b0->W'.heap[b]?=W.heap[b]?\/(n0<=b/\∃z:so (th Deferred),W.heap[b]?=some (.deferred z)):=fun b _ _=>by
  by_cases e:b∈ms
  ·exact .inr ⟨(g b e).2,_,(g b e).1⟩
  ·exact .inl (o b e)
 have c:W'.heap[b0]?=some (.cells #[.string s] f (0,0)):=(o b0 j).trans hb;refine⟨_,results_none res82 _ _ _,_,s,rfl,⟨f,c⟩,?_⟩;rcases i with q|q
 ·exact .inl (h.hI _ W W' _ q (dk u.symm) d ⟨f,c⟩ t r p)
 ·exact .inr (h.hIx W W' _ q (dk u.symm) d ⟨f,c⟩ t r p)
def O3:(⟨#[]⟩:ByteArray).size=0:=rfl
noncomputable def Rh (h:LiI n0 l b0 I Ix) {n m:Nat} {s y:ByteArray} {a:Act} {W:World} (L:s.size<=n) (N:Ñ s.size=true) (H:LY n0 l b0 s a W) (K:a.tmps.getD 3 undef=.string y) (hI:I (y::i7 n s) W)
 (J:∀(b:Act) (W':World),LY n0 l b0 s b W'->I (i7 n s) W'->Code.roundsIn Fence.wide 0 Tryz.prog liL (Exit.inBlock 0 (LiQ b0 I Ix)) m b W') :
 (Code.seq liY liC).wpIn Fence.wide 0 Tryz.prog (Exit.inBlock 1 (Exit.then (Code.roundsIn Fence.wide 0 Tryz.prog liL (Exit.inBlock 0 (LiQ b0 I Ix)) m) (Exit.inBlock 0 (LiQ b0 I Ix)))) a W:=by
 apply wpIn_seq;obtain⟨v,hb⟩:=H.box;refine li_Y H.t0 K H.size (h.hY y _ W _ hI ⟨v,hb⟩) fun e W' d=>?_;obtain⟨M,t,hd,r⟩:=d
 have j:∀b:Act,b.defers=a.defers->b.tmps.size=a.tmps.size->b.tmps.getD 0 undef=a.tmps.getD 0 undef->b.tmps.getD 1 undef=a.tmps.getD 1 undef->Globs.Φ W'->LY n0 l b0 s b W':=fun b i c g f p=>by
  obtain⟨ms,G,E,z⟩:=H.defers;exact⟨⟨ms,i.trans G,E,fun k B=>⟨hd k _ (z k B).1,(z k B).2⟩⟩,bB H.size0 M,by rw[c]; exact H.size,g.trans H.t0,f.trans H.t1,⟨v,t.trans hb⟩,p⟩
 rcases r with⟨rfl,q⟩|⟨rfl,q⟩
 ·refine⟨true,rfl,fun b i c g f u=>?_⟩;have A:=j b i c g f (h.phi _ _ q);have:=B0 (e:=.normal) (x:=.any) (s':=s) (A.sim24 h.gn u) rfl A.size0 VG (li_C s false);refine wpIn_mono this fun c C D ⟨d,o,_,k2⟩=>?_;subst d;exact J C D o (h.stepI q k2 o)
 ·refine⟨false,rfl,fun b i c g f u=>?_⟩;have A:=j b i c g f (h.phx _ q);have:=B0 (e:=.ret) (x:=.any) (s':=s) (A.sim24 h.gn u) rfl A.size0 VG (li_C s true);refine wpIn_mono this fun c C D ⟨d,o,_,k2⟩=>?_;subst d;exact Rj h o (.inr (h.stepX q k2 o))
def WU {s:ByteArray} {c:UInt8} (h:0<=Lib.indexByte s.data.toList c):∃k:Nat,Lib.indexByte s.data.toList c=k/\k<s.size:=by
 obtain⟨k,a⟩:=dI h;refine⟨k,a,?_⟩;have:=(Lib.indexByte_some a).1;have h2:=(bC.1 this).1;simpa using h2
def VY {n:Int} (h0:0<=n) (a:n<=4294967297):PO n=n:=by
 show IntKind.i64.wrap n=n;rw[IntKind.wrap_i64]; omega
def Ri (h:LiI n0 l b0 I Ix):∀(n:Nat) (s:ByteArray) (a:Act) (W:World),s.size<=n->Ñ s.size=true->LY n0 l b0 s a W->I (i7 n s) W->Code.roundsIn Fence.wide 0 Tryz.prog liL (Exit.inBlock 0 (LiQ b0 I Ix)) (n+1) a W:=by
 intro n
 induction n with
 |zero =>
  intro s a W D i H hI
  have f:s.size=0:=by omega
  rw[roundsIn_succ];apply wpIn_seq;have law:=li_0 s;rw[show igt (yr s.size) 0=false by rw[ź,f]; rfl] at law;refine wpIn_mono (qE (e:=.exit 0) (x:=.any) (s':=s) h.gn Q2 law H) fun e j W' ⟨c,p,_,k⟩=>?_;subst c;exact Rj h p (.inl (h.stepI hI k p))
 |succ n y =>
  intro s a W D i H hI;rw[roundsIn_succ];apply wpIn_seq
  by_cases f:s.size=0
  ·have law:=li_0 s;rw[show igt (yr s.size) 0=false by rw[ź,f]; rfl] at law;rw[EQ f] at hI;refine wpIn_mono (qE (e:=.exit 0) (x:=.any) (s':=s) h.gn Q2 law H) fun e j W' ⟨c,p,_,k⟩=>?_;subst c;exact Rj h p (.inl (h.stepI hI k p))
  ·have law:=li_0 s
   have v:igt (yr s.size) 0=true:=by
    rw[ź];exact decide_eq_true (by omega)
   rw[v] at law;refine wpIn_mono (qE (e:=.normal) (x:=.any) (s':=s) h.gn Q2 law H) fun e M O ⟨c,K,_,k1⟩=>?_;subst c;apply wpIn_block;apply wpIn_seq;refine wpIn_mono (qE (e:=.normal) (x:=.str ⟨#[]⟩) (s':=s) h.gn loopsR (li_R s) K) fun e L N ⟨c,B,_,k2⟩=>?_;subst c;apply wpIn_seq;have b:=li_M s;have z:s.size<=4294967296:=of_decide_eq_true i;unfold i7 at hI;rw[if_neg f] at hI;change goC (liE liT) (Ō (liE liT) 10) 168 [] 1 1 liM (liS s .any) liK=Uv s (Lib.indexByte s.data.toList 10) at b
   by_cases r:0<=Lib.indexByte s.data.toList 10
   ·rw[if_pos r] at hI;obtain⟨k,G,E⟩:=WU r;rw[G] at b hI;unfold Uv at b;have C:PO ((k:Int)+1)=(k:Int)+1:=VY (by omega) (by omega);rw[C,show ige (k:Int) 0=true from decide_eq_true (by omega),show(decide (0<=(k:Int)+1)&&decide ((k:Int)+1<=s.size))=true by simp; omega] at b
    have g:(s.extract ((k:Int)+1).toNat s.size).size<=n:=by
     rw[ByteArray.size_extract]; omega
    have d:Ñ (s.extract ((k:Int)+1).toNat s.size).size=true:=decide_eq_true (by rw[ByteArray.size_extract]; omega);refine wpIn_mono (qE (e:=.normal) (x:=.str (s.extract 0 ((k:Int)+1).toNat)) (s':=s.extract ((k:Int)+1).toNat s.size) h.gn VF b B) fun e a3 J ⟨c,o,t,k3⟩=>?_;subst c;exact Rh h g d o (t _ rfl) (h.stepI hI (k1.trans (k2.trans k3)) o) fun j W' A q=>y _ j W' g d A q
   ·rw[if_neg r] at hI;unfold Uv at b;rw[show ige (Lib.indexByte s.data.toList 10) 0=false from decide_eq_false r] at b;have u:i7 n ⟨#[]⟩=[]:=EQ O3;refine wpIn_mono (qE (e:=.normal) (x:=.str s) (s':=⟨#[]⟩) h.gn VF b B) fun e a3 J ⟨c,o,t,k3⟩=>?_;subst c;exact Rh h (n:=n) (Nat.zero_le _) rfl o (t _ rfl) (by rw[u]; exact h.stepI hI (k1.trans (k2.trans k3)) o) fun j W' A q=>y _ j W' (Nat.zero_le _) rfl A q
end
def nt168:Tryz.f168.ntmps=25:=by kernel_rfl
def Ry:Tryz.prog.funcs[168]?=some Tryz.f168:=by kernel_rfl
def Ut {N:Nat} (c:N=25) {l b0:Nat} {s:ByteArray} {w:World} (hb:∃b,w.heap[b0]?=some (.cells #[.string s] b (0,0))) (a:Globs.Φ w) :
 LY w.heap.size l b0 s {tmps:=#[.func (.yield l) #[] #[],.pointer (some ⟨b0,0,none⟩)]++Array.replicate (N-(#[.func (.yield l) #[] #[],.pointer (some ⟨b0,0,none⟩)]:Array Value).size) undef,defers:=[]} w:=by
 subst c;exact⟨⟨[],rfl,cM,fun _ h=>by cases h⟩,bm _,by simp,by simp[bM],by simp[bM],hb,a⟩
def Uu {P:Program} {f:Nat} {fn:Func} {c:Code} {args:Array Value} {w:World} {R:Ending->World->Prop} (a:P.funcs[f]?=some fn) (hb:fn.body=some c)
 (h:c.wpIn Fence.wide 0 P (bodyPostM Fence.wide 0 P fn R) {tmps:=args++Array.replicate (fn.ntmps-args.size) undef,defers:=[]} w):CallsIn Fence.wide 0 P f args w R :=
 callsIn_of_wp_marks a hb trivial h
def Ur:Hk Tryz.prog 168 sJ where
 ok:=fun s l b0 I Ix w c a b d hI hIx hY h0 hb=>by
  have h:LiI w.heap.size l b0 I Ix:=⟨d,a,b,hI,hIx,hY⟩;have A:=Ut nt168 (l:=l) hb (a _ _ h0)
  have W:liB.wpIn Fence.wide 0 Tryz.prog (LiQ b0 I Ix) {tmps:=#[.func (.yield l) #[] #[],.pointer (some ⟨b0,0,none⟩)]++Array.replicate (Tryz.f168.ntmps-(#[.func (.yield l) #[] #[],.pointer (some ⟨b0,0,none⟩)]:Array Value).size) undef,defers:=[]} w:=by
   rw[liB_eq];apply wpIn_block;apply wpIn_loop_rounds (s.size+1);exact Ri h s.size s _ w (bm _) c A h0
  exact⟨⟨_,_,Ry,VJ⟩,Uu Ry VJ W⟩
end Go.Proofs.ZzM
end

noncomputable section
set_option maxRecDepth 100000
namespace Go.Proofs.ZzM
open Go Go.Am
def lS:ZP 68 f8:=zt (ζ _) Ä rfl (Á ml (Á mj Ä)) fun x=>by kernel_rfl
def Bq:∀e∈wP,Ý Tryz.prog e.1 e.2:=(Á lS Ä)
def K8 {ρ:Type}:∀e∈tz ρ,e.Ok (ī ρ):=(Á F8 (Á F9 (Á F7 (Á F6 (Á F5 (Á F4 Ä))))))
def xV {ρ:Type}:∀e∈lm ρ,e.Ok (Ĉ ρ):=(Á Du (Á Dt (Á Ds Ä)))
def rn:ZP 113 me:=zt (Jb _) Ä rfl Ä fun x=>by kernel_rfl
def jQ:ZP 234 gS:=zt (I7 _) Ä rfl Ä fun x=>by kernel_rfl
def CJ:ZP 185 uI:=zt (La _) (Á jQ Ä) rfl Ä fun x=>by kernel_rfl
def U5:ZP 282 MA:=zt (OD _) Ä rfl Ä fun x=>by kernel_rfl
def Xo:ZP 283 Qq:=zt (I5 _) Ä rfl (Á Gc Ä) fun x=>by kernel_rfl
def SI:ZP 233 H9:=zt (K9 _) (Á U5 (Á Xo Ä)) rfl Ä fun x=>by kernel_rfl
def LG:ZP 183 Aj:=zt (vx _) (Á rn (Á CJ (Á SI (Á jQ Ä)))) rfl Ä fun x=>BC x some
def CK:ZP 114 oT:=zt (mz _) (Á LG Ä) rfl (Á pK Ä) fun x=>by kernel_rfl
def LD:ZP 115 Ai:=zt (vt _) Ä rfl (Á wQ Ä) fun x=>by kernel_rfl
def xo:ZP 285 mc:=zt (kg _) Ä rfl (Á m9 Ä) fun x=>by kernel_rfl
def jb:ZP 239 δ:=zt (oy _) (Á xo Ä) rfl Ä fun x=>by kernel_rfl
def U8:ZP 190 MD:=zt (wT _) (Á jb Ä) rfl (Á DB (Á DA Ä)) fun x=>by kernel_rfl
def SK:ZP 117 Ib:=zt (tD _) (Á U8 Ä) rfl (Á BA (Á BB Ä)) fun x=>by kernel_rfl
def l7:ZP 186 il:=zt (yR _) Ä rfl Ä fun x=>by kernel_rfl
def LF:ZP 184 KP:=zt (Gd _) (Á CJ (Á l7 Ä)) rfl Ä fun x=>by kernel_rfl
def G4:ZP 188 FK:=zt (gx _) (Á rn (Á l7 (Á jQ Ä))) rfl (Á tG (Á tF Ä)) fun x=>wU x some
def Px:ZP 203 Eh:=zt (ya _) (Á jQ Ä) rfl (Á yT Ä) fun x=>by kernel_rfl
def U7:ZP 204 MC:=zt (wS _) (Á jb Ä) rfl (Á Dz (Á Dy Ä)) fun x=>by kernel_rfl
def U9:ZP 238 ME:=zt (EM _) (Á jQ Ä) rfl (Á DC Ä) fun x=>by kernel_rfl
def y8:ZP 189 yp:=zt (Ġ _) (Á lS (Á rn (Á CJ (Á l7 (Á Px (Á U7 (Á jQ (Á U9 Ä)))))))) rfl (Á oC (Á oA (Á oB (Á oz Ä)))) fun x=>ry x some
end Go.Proofs.ZzM
end

noncomputable section
namespace Go.Proofs
open Go.RowKit
attribute [local go_sem] Oper.semAt_some
noncomputable def CX (a:Nat->Bool) (k:Nat):th Nat:=(List.range k).filter a
def uk (a:Nat->Bool) (k:Nat):CX a (k+1)=if a k then CX a k++[k] else CX a k:=by
 unfold CX;rw[List.range_succ,List.filter_append]
 cases h:a k<;>simp[h]
def Kz (a:Nat->Bool) (k:Nat):(CX a k).length<=k:=by
 unfold CX;exact Nat.le_trans (List.length_filter_le _ _) (by simp)
def P7 (a:Nat->Bool) {j k:Nat} (h:j<=k):(CX a j).length<=(CX a k).length:=by
 obtain⟨d,rfl⟩:∃d,k=j+d:=⟨k-j,by omega⟩;unfold CX;rw[List.range_add,List.filter_append,List.length_append];omega
def Wc {a:Nat->Bool} {k n:Nat} (h:k<n) (c:a k=true):(CX a k).length<(CX a n).length:=by
 have b:=P7 a (j:=k+1) (k:=n) h;rw[uk,c] at b;simp at b;omega
set_option maxRecDepth 100000 in
set_option maxHeartbeats 1000000 in
def WQ (te:TypeId) (n:Nat) (hn:1<=n) (l bb tb:Nat) (flo fhi us lo co ko:Value) (gb go len cap:Nat) (gbase:so Addr) (hgb:0<len->gbase=some ⟨gb,go,none⟩)
 (c0 c1 c2 c3 c4 c5 c6 c7:Nat->Int) (sel:Nat->Bool) (hlen:(len:Int)<9223372036854775807) (Nd:World->Prop)
 (W:World) (hb0:W.heap[bb]?=some (.cells #[flo,fhi,.slice gbase len cap,us,lo,co,ko] te (0,0)))
 (hNc:∀W',Nd W'->∀j,j<len->W'.cell? ⟨gb,go+j*8,none⟩=some (.int .i64 (c0 j))/\W'.cell? ⟨gb,go+j*8+1,none⟩=some (.int .i64 (c1 j))/\W'.cell? ⟨gb,go+j*8+2,none⟩=some (.int .i64 (c2 j))/\W'.cell? ⟨gb,go+j*8+3,none⟩=some (.int .i64 (c3 j)) /\
  W'.cell? ⟨gb,go+j*8+4,none⟩=some (.int .i64 (c4 j))/\W'.cell? ⟨gb,go+j*8+5,none⟩=some (.int .i64 (c5 j))/\W'.cell? ⟨gb,go+j*8+6,none⟩=some (.int .i64 (c6 j))/\W'.cell? ⟨gb,go+j*8+7,none⟩=some (.int .i64 (c7 j)))
 (hNm:∀W',Nd W'->∃mv,∀W'',W'.grownBy W'' none->W''.cell? ⟨tb,0,none⟩=some mv/\∀j,j<len->(Instr.lookup 177 mv (.int .i64 (c0 j)) false).run Tryz.prog W''=.ok (.bool (sel j)) W'')
 (hNs:∀W1 W2,Nd W1->W1.grownBy W2 none->Nd W2) (hN:Nd W)
 (J Jx:th Nat->World->Prop) (hJ:∀pre W W',J pre W->W.grownBy W' none->J pre W') (hJx:∀pre W W',Jx pre W->W.grownBy W' none->Jx pre W')
 (hY:∀pre x W,J pre W->pre.length<(CX sel len).length->YieldAt Fence.wide (n-1) Tryz.prog l #[.agg #[.int .i64 (c0 x),.int .i64 (c1 x),.int .i64 (c2 x),.int .i64 (c3 x),.int .i64 (c4 x),.int .i64 (c5 x),.int .i64 (c6 x),.int .i64 (c7 x)]] W fun e W' =>
  (e=.returned (.bool true)/\J (pre++[x]) W'/\(Nd W->Nd W'))\/(e=.returned (.bool false)/\Jx (pre++[x]) W'))
 (h0 : J [] W) :
  CallsIn Fence.wide n Tryz.prog 182 #[.func (.yield l) #[] #[],.pointer (some ⟨bb,0,none⟩),.pointer (some ⟨tb,0,none⟩)] W fun e W'=>(∃v,e=.returned v) /\
   ((∃xs,xs=CX sel len/\J xs W')\/(∃pre,True/\Jx pre W')):=by
 have hb3:W.cell? ⟨bb,2,none⟩=some (.slice gbase len cap):=by simp[World.cell?,hb0]
 refine callsIn_of_wp Tryz.func182 rfl trivial ?_ rfl;simp only[Tryz.ntmps182,cZ,bz,bD,Nat.reduceAdd,Nat.reduceSub,Array.replicate_succ,Array.replicate_zero,List.push_toArray,eI,cr,cW]
 gi_wp2
 gi_loopw [9] (fun i wr=>∃k:Nat,k<=len/\i=.int .i64 k/\J (CX sel k) wr/\Nd wr)
  (fun i _=>len-(intOf i).toNat)
 case atStart=>exact⟨0,bO _,rfl,h0,hN⟩
 case round =>
  obtain⟨k,hk,rfl,hJs,hNw⟩:=hrel
  by_cases hlt:k<len
  ·have hg:=hgb (by omega);subst hg;obtain⟨q0,q1,q2,q3,q4,q5,q6,q7⟩:=hNc _ hNw k hlt;obtain⟨mv,hmv⟩:=hNm _ hNw;have hta:∀o,(wr.alloc o).cell? ⟨tb,0,none⟩=some mv:=fun o=>(hmv _ (World.grownBy_alloc _ o none)).1;have hlk:∀o,(Instr.lookup 177 mv (.int .i64 (c0 k)) false).run Tryz.prog (wr.alloc o)=.ok (.bool (sel k)) (wr.alloc o):=fun o=>(hmv _ (World.grownBy_alloc _ o none)).2 k hlt;have hNa:∀o,Nd (wr.alloc o):=fun o=>hNs _ _ hNw (World.grownBy_alloc _ o none);have hJa:∀o,J (CX sel k) (wr.alloc o):=fun o=>hJ _ _ _ hJs (World.grownBy_alloc _ o none);clear hmv hNm hNc
   cases hsel:sel k with
   |false =>
    rw[hsel] at hlk
    iterate 52 (first|go_values|gi_guarded|gi_step|gi_upon)
    refine⟨fun f hf=>by simp[undef,go_sem] at hf,?_⟩
    gi_wp2
    go_roundw
    case rel=>exact⟨k+1,by omega,by simp,by rw[uk,hsel]; exact hJa _,hNa _⟩
    case measure=>simp[intOf]; omega
   |true =>
    rw[hsel] at hlk
    gi_wp2
    obtain⟨fn,tmps,assign,body,hy,hR⟩:=hY (CX sel k) k (wr.alloc (.cells #[.int .i64 (c0 k),.int .i64 (c1 k),.int .i64 (c2 k),.int .i64 (c3 k),.int .i64 (c4 k),.int .i64 (c5 k),.int .i64 (c6 k),.int .i64 (c7 k)] 73)) (hJa _) (Wc hlt hsel);rw[hy];refine⟨fun h=>(by cases h),hR.mono ?_⟩;rintro e W3 (⟨rfl,hJ3,hk3⟩|⟨rfl,hJx3⟩)
    ·gi_wp2
     go_roundw
     case rel=>exact⟨k+1,by omega,by simp,by rw[uk,hsel]; exact hJ3,hk3 (hNa _)⟩
     case measure=>simp[intOf]; omega
    ·gi_wp2
     refine bodyPost_ret (results_none rfl _ _ _) rfl ?_;exact⟨⟨_,rfl⟩,.inr ⟨_,trivial,hJx3⟩⟩
  ·obtain rfl:len=k:=by omega
   gi_wp2
   go_end0
   exact⟨⟨_,rfl⟩,.inl ⟨_,rfl,hJs⟩⟩
end Go.Proofs
end

noncomputable section
namespace Go.Proofs
open Go.RowKit
attribute [local go_sem] Oper.semAt_some
noncomputable def upE (f:Nat->Int) (k:Nat):th Int:=(List.range k).map f
def kF (f:Nat->Int) (k:Nat):upE f (k+1)=upE f k++[f k]:=by simp[upE,List.range_succ]
def qn (f:Nat->Int) (k:Nat):(upE f k).length=k:=by simp[upE]
def zc (f:Nat->Int) {j k:Nat} (h:j<=k):upE f j <+: upE f k:=by
 have:k=j+(k-j):=by omega
 rw[this,upE,upE,List.range_add,dZ];exact cp _ _
set_option maxRecDepth 100000 in
set_option maxHeartbeats 1000000 in
noncomputable def T6 (te:TypeId) (n:Nat) (hn:1<=n) (l n₀ bb tb sb:Nat) (flo fhi ga mv:Value) (hbb:bb<n₀) (htb:tb<n₀) (hsb:sb<n₀)
 (ub uo ul uc kb ko kl kc:Nat) (ubase kbase lbase cbase:so Addr) (ll lc cl cc:Nat) (hub:0<ul->ubase=some ⟨ub,uo,none⟩/\ub<n₀) (hkb:0<kl->kbase=some ⟨kb,ko,none⟩/\kb<n₀)
 (U K:Nat->Int×Int) (eU eL eC eK:Nat->Int)
 (hul:ul<=1000) (hll:ll<=1000) (hcl:cl<=1000) (hkl:kl<=1000)
 (W:World) (hb0:W.heap[bb]?=some (.cells #[flo,fhi,ga,.slice ubase ul uc,.slice lbase ll lc,.slice cbase cl cc,.slice kbase kl kc] te (0,0)))
 (ht:W.cell? ⟨tb,0,none⟩=some (.func (.func 184) #[] #[.pointer (some ⟨sb,0,none⟩)])) (hs:W.cell? ⟨sb,0,none⟩=some mv)
 (hU:∀j,j<ul->W.cell? ⟨ub,uo+j*2,none⟩=some (.int .i64 (U j).1)/\W.cell? ⟨ub,uo+j*2+1,none⟩=some (.int .i64 (U j).2))
 (hK:∀j,j<kl->W.cell? ⟨kb,ko+j*2,none⟩=some (.int .i64 (K j).1)/\W.cell? ⟨kb,ko+j*2+1,none⟩=some (.int .i64 (K j).2))
 (cU:∀j,j<ul->∀W',Below n₀ W W'->CallsIn Fence.wide (n-1) Tryz.prog 184 #[.int .i64 (U j).1,.int .i64 (U j).2,.pointer (some ⟨sb,0,none⟩)] W' fun e W''=>e=.returned (.int .i64 (eU j))/\W'.grownBy W'' none)
 (cK:∀j,j<kl->∀W',Below n₀ W W'->CallsIn Fence.wide (n-1) Tryz.prog 184 #[.int .i64 (K j).1,.int .i64 (K j).2,.pointer (some ⟨sb,0,none⟩)] W' fun e W''=>e=.returned (.int .i64 (eK j))/\W'.grownBy W'' none)
 (cL:∀j,j<ll->∀W',Below n₀ W W'->CallsIn Fence.wide (n-1) Tryz.prog 188 #[.agg #[flo,fhi,ga,.slice ubase ul uc,.slice lbase ll lc,.slice cbase cl cc,.slice kbase kl kc],mv,.int .i64 j] W' fun e W''=>e=.returned (.int .i64 (eL j))/\W'.grownBy W'' none)
 (cC:∀j,j<cl->∀W',Below n₀ W W'->CallsIn Fence.wide (n-1) Tryz.prog 189 #[.agg #[flo,fhi,ga,.slice ubase ul uc,.slice lbase ll lc,.slice cbase cl cc,.slice kbase kl kc],mv,.int .i64 j] W' fun e W''=>e=.returned (.int .i64 (eC j))/\W'.grownBy W'' none)
 (J Jx:th Int->World->Prop) (hJ:∀pre W W',J pre W->W.grownBy W' none->J pre W') (hJx:∀pre W W',Jx pre W->W.grownBy W' none->Jx pre W')
 (hY:∀pre x W,J pre W->pre.length<ul+(ll+(cl+kl))->YieldAt Fence.wide (n-1) Tryz.prog l #[.int .i64 x] W fun e W' =>
  (e=.returned (.bool true)/\J (pre++[x]) W'/\Below n₀ W W')\/(e=.returned (.bool false)/\Jx (pre++[x]) W'))
 (h0 : J [] W) (hn₀ : n₀ <= W.heap.size) :
  CallsIn Fence.wide n Tryz.prog 187 #[.func (.yield l) #[] #[],.pointer (some ⟨bb,0,none⟩),.pointer (some ⟨tb,0,none⟩),.pointer (some ⟨sb,0,none⟩)] W fun e W'=>(∃v,e=.returned v) /\
   ((∃xs,xs=upE eU ul++(upE eL ll++(upE eC cl++upE eK kl))/\J xs W')\/(∃pre,(pre <+: upE eU ul++(upE eL ll++(upE eC cl++upE eK kl)))/\Jx pre W')):=by
 have grown_alloc:∀(X:World) (o:Obj),X.grownBy (X.alloc o) none:=fun X o=>World.grownBy_alloc X o none
 have bel:∀{X Y:World},Below n₀ W X->X.grownBy Y none->Below n₀ W Y:=fun {X Y} h g =>
  ⟨g.os.trans h.os,g.tape.trans h.tape,g.output.trans h.output,bB h.size g.size,fun k hk=>(g.block k (bu (bu hk hn₀) h.size) (by simp)).trans (h.block k hk)⟩
 have hc:∀{X:World},Below n₀ W X->X.heap[bb]?=some (.cells #[flo,fhi,ga,.slice ubase ul uc,.slice lbase ll lc,.slice cbase cl cc,.slice kbase kl kc] te (0,0)):=fun h=>(h.block bb hbb).trans hb0;refine callsIn_of_wp Tryz.func187 rfl trivial ?_ rfl;simp only[Tryz.ntmps187,cZ,bz,bD,Nat.reduceAdd,Nat.reduceSub,Array.replicate_succ,Array.replicate_zero,List.push_toArray,eI,cr,cW]
 have hb3:W.cell? ⟨bb,3,none⟩=some (.slice ubase ul uc):=by simp[World.cell?,hb0]
 gi_wp2
 gi_loopw [14] (fun i wr=>∃k:Nat,k<=ul/\i=.int .i64 k/\J (upE eU k) wr/\Below n₀ W wr)
  (fun i _=>ul-(intOf i).toNat)
 case atStart=>exact⟨0,bO _,rfl,h0,Below.refl _ _⟩
 case round =>
  obtain⟨k,hk,rfl,hJs,hnx⟩:=hrel
  by_cases hlt:k<ul
  ·obtain⟨rfl,hlu⟩:=hub (by omega);have hu1:=(hnx.cell (p:=⟨ub,uo+k*2,none⟩) hlu).trans (hU k hlt).1;have hu2:=(hnx.cell (p:=⟨ub,uo+k*2+1,none⟩) hlu).trans (hU k hlt).2;have ht':=(hnx.cell (p:=⟨tb,0,none⟩) htb).trans ht;have hta:∀o,(wr.alloc o).cell? ⟨tb,0,none⟩=some (.func (.func 184) #[] #[.pointer (some ⟨sb,0,none⟩)]):=fun o=>Lib.cell?_alloc_some _ ht'
   gi_wp2
   refine⟨trivial,(cU k hlt _ (bel hnx (grown_alloc _ _))).mono ?_⟩;rintro e W2 ⟨rfl,hg2⟩;obtain⟨fn,tmps,assign,body,hy,hR⟩:=hY _ (eU k) W2 (hJ _ _ _ (hJ _ _ _ hJs (grown_alloc _ _)) hg2) (by rw[qn]; omega);have hb2:=bel (bel hnx (grown_alloc _ _)) hg2
   gi_wp2
   refine hR.mono ?_;rintro e W3 (⟨rfl,hJ3,hk3⟩|⟨rfl,hJx3⟩)
   ·gi_wp2
    go_roundw
    case rel=>exact⟨k+1,by omega,by simp,by rw[kF]; exact hJ3,hb2.trans hk3⟩
    case measure=>simp[intOf]; omega
   ·gi_wp2
    refine bodyPost_ret (results_none rfl _ _ _) rfl ?_;refine⟨⟨_,rfl⟩,.inr ⟨_,?_,hJx3⟩⟩;rw[<-kF];exact(zc eU (by omega)).trans (cp _ _)
  ·obtain rfl:ul=k:=by omega
   have hb4:wr.cell? ⟨bb,4,none⟩=some (.slice lbase ll lc):=by simp[World.cell?,hc hnx]
   gi_wp2
   gi_loopw [31] (fun i wr=>∃k:Nat,k<=ll/\i=.int .i64 k/\J (upE eU ul++upE eL k) wr/\Below n₀ W wr)
    (fun i _=>ll-(intOf i).toNat)
   case atStart=>exact⟨0,bO _,rfl,by simpa[upE] using hJs,hnx⟩
   case round =>
    clear hJs hnx;obtain⟨k,hk,rfl,hJs,hnx⟩:=hrel
    by_cases hlt:k<ll
    ·have q0:wr.cell? ⟨bb,0,none⟩=some flo:=by simp[World.cell?,hc hnx]
     have q1:wr.cell? ⟨bb,1,none⟩=some fhi:=by simp[World.cell?,hc hnx]
     have q2:wr.cell? ⟨bb,2,none⟩=some ga:=by simp[World.cell?,hc hnx]
     have q3:wr.cell? ⟨bb,3,none⟩=some (.slice ubase ul uc):=by simp[World.cell?,hc hnx]
     have q4:wr.cell? ⟨bb,4,none⟩=some (.slice lbase ll lc):=by simp[World.cell?,hc hnx]
     have q5:wr.cell? ⟨bb,5,none⟩=some (.slice cbase cl cc):=by simp[World.cell?,hc hnx]
     have q6:wr.cell? ⟨bb,6,none⟩=some (.slice kbase kl kc):=by simp[World.cell?,hc hnx]
     have hs':=(hnx.cell (p:=⟨sb,0,none⟩) hsb).trans hs
     gi_wp2
     refine⟨trivial,(cL k hlt _ hnx).mono ?_⟩;rintro e W2 ⟨rfl,hg2⟩;obtain⟨fn,tmps,assign,body,hy,hR⟩:=hY _ (eL k) W2 (hJ _ _ _ hJs hg2) (by simp only[bp,qn]; omega);have hb2:=bel hnx hg2
     gi_wp2
     refine hR.mono ?_;rintro e W3 (⟨rfl,hJ3,hk3⟩|⟨rfl,hJx3⟩)
     ·gi_wp2
      go_roundw
      case rel=>exact⟨k+1,by omega,by simp,by rw[kF,<-bE]; exact hJ3,hb2.trans hk3⟩
      case measure=>simp[intOf]; omega
     ·gi_wp2
      refine bodyPost_ret (results_none rfl _ _ _) rfl ?_;refine⟨⟨_,rfl⟩,.inr ⟨_,?_,hJx3⟩⟩;rw[bE,<-kF];exact(cN _).2 ((zc eL (by omega)).trans (cp _ _))
    ·obtain rfl:ll=k:=by omega
     have hb5:wr.cell? ⟨bb,5,none⟩=some (.slice cbase cl cc):=by simp[World.cell?,hc hnx]
     gi_wp2
     gi_loopw [45] (fun i wr=>∃k:Nat,k<=cl/\i=.int .i64 k/\J (upE eU ul++upE eL ll++upE eC k) wr/\Below n₀ W wr)
      (fun i _=>cl-(intOf i).toNat)
     case atStart=>exact⟨0,bO _,rfl,by simpa[upE] using hJs,hnx⟩
     case round =>
      clear hJs hnx;obtain⟨k,hk,rfl,hJs,hnx⟩:=hrel
      by_cases hlt:k<cl
      ·have q0:wr.cell? ⟨bb,0,none⟩=some flo:=by simp[World.cell?,hc hnx]
       have q1:wr.cell? ⟨bb,1,none⟩=some fhi:=by simp[World.cell?,hc hnx]
       have q2:wr.cell? ⟨bb,2,none⟩=some ga:=by simp[World.cell?,hc hnx]
       have q3:wr.cell? ⟨bb,3,none⟩=some (.slice ubase ul uc):=by simp[World.cell?,hc hnx]
       have q4:wr.cell? ⟨bb,4,none⟩=some (.slice lbase ll lc):=by simp[World.cell?,hc hnx]
       have q5:wr.cell? ⟨bb,5,none⟩=some (.slice cbase cl cc):=by simp[World.cell?,hc hnx]
       have q6:wr.cell? ⟨bb,6,none⟩=some (.slice kbase kl kc):=by simp[World.cell?,hc hnx]
       have hs':=(hnx.cell (p:=⟨sb,0,none⟩) hsb).trans hs
       gi_wp2
       refine⟨trivial,(cC k hlt _ hnx).mono ?_⟩;rintro e W2 ⟨rfl,hg2⟩;obtain⟨fn,tmps,assign,body,hy,hR⟩:=hY _ (eC k) W2 (hJ _ _ _ hJs hg2) (by simp only[bp,qn]; omega);have hb2:=bel hnx hg2
       gi_wp2
       refine hR.mono ?_;rintro e W3 (⟨rfl,hJ3,hk3⟩|⟨rfl,hJx3⟩)
       ·gi_wp2
        go_roundw
        case rel=>exact⟨k+1,by omega,by simp,by rw[kF,<-bE]; exact hJ3,hb2.trans hk3⟩
        case measure=>simp[intOf]; omega
       ·gi_wp2
        refine bodyPost_ret (results_none rfl _ _ _) rfl ?_;refine⟨⟨_,rfl⟩,.inr ⟨_,?_,hJx3⟩⟩;rw[bE,<-kF]
        exact by rw[bE]; exact(cN _).2 ((cN _).2 ((zc eC (by omega)).trans (cp _ _)))
      ·obtain rfl:cl=k:=by omega
       have hb6:wr.cell? ⟨bb,6,none⟩=some (.slice kbase kl kc):=by simp[World.cell?,hc hnx]
       gi_wp2
       gi_loopw [59] (fun i wr=>∃k:Nat,k<=kl/\i=.int .i64 k/\J ((upE eU ul++upE eL ll++upE eC cl)++upE eK k) wr/\Below n₀ W wr)
        (fun i _=>kl-(intOf i).toNat)
       case atStart=>exact⟨0,bO _,rfl,by simpa[upE] using hJs,hnx⟩
       case round =>
        clear hJs hnx;obtain⟨k,hk,rfl,hJs,hnx⟩:=hrel
        by_cases hlt:k<kl
        ·obtain⟨rfl,hlk⟩:=hkb (by omega);have hu1:=(hnx.cell (p:=⟨kb,ko+k*2,none⟩) hlk).trans (hK k hlt).1;have hu2:=(hnx.cell (p:=⟨kb,ko+k*2+1,none⟩) hlk).trans (hK k hlt).2;have ht':=(hnx.cell (p:=⟨tb,0,none⟩) htb).trans ht;have hta:∀o,(wr.alloc o).cell? ⟨tb,0,none⟩=some (.func (.func 184) #[] #[.pointer (some ⟨sb,0,none⟩)]):=fun o=>Lib.cell?_alloc_some _ ht'
         gi_wp2
         refine⟨trivial,(cK k hlt _ (bel hnx (grown_alloc _ _))).mono ?_⟩;rintro e W2 ⟨rfl,hg2⟩;obtain⟨fn,tmps,assign,body,hy,hR⟩:=hY _ (eK k) W2 (hJ _ _ _ (hJ _ _ _ hJs (grown_alloc _ _)) hg2) (by simp only[bp,qn]; omega);have hb2:=bel (bel hnx (grown_alloc _ _)) hg2
         gi_wp2
         refine hR.mono ?_;rintro e W3 (⟨rfl,hJ3,hk3⟩|⟨rfl,hJx3⟩)
         ·gi_wp2
          go_roundw
          case rel=>exact⟨k+1,by omega,by simp,by rw[kF,<-bE]; exact hJ3,hb2.trans hk3⟩
          case measure=>simp[intOf]; omega
         ·gi_wp2
          refine bodyPost_ret (results_none rfl _ _ _) rfl ?_;refine⟨⟨_,rfl⟩,.inr ⟨_,?_,hJx3⟩⟩;rw[bE,<-kF,bE,bE];exact(cN _).2 ((cN _).2 ((cN _).2 (zc eK (by omega))))
        ·obtain rfl:kl=k:=by omega
         gi_wp2
         go_end0
         exact⟨⟨_,rfl⟩,.inl ⟨_,rfl,by simpa[bE] using hJs⟩⟩
end Go.Proofs
end

noncomputable section
set_option maxRecDepth 100000
namespace Go.Proofs.ZzM
open Go Go.Am Go.RowKit
def Mo (p:String):Code:=.region 10 #[{dst:=some 5,op:=.assign (.tmp 49),type:=38,pos:=p,after:=#[],guard:=none}] false
def Vz (q r:String):Code:=.block 1 (.seq (.region 11 #[{dst:=some 50,op:=.move (.tmp 5),type:=38,pos:=q,after:=#[],guard:=none},{dst:=some 51,op:=.binOp .neq 38 (.tmp 50) (.const (.int .i64 0)) 38,type:=4,pos:=q,after:=#[{on:=0,ground:=.data}],guard:=none}] false)
 (.cond (.tmp 51) (.seq (.region 12 #[{dst:=some 52,op:=.move (.tmp 5),type:=38,pos:=r,after:=#[],guard:=none},{dst:=none,op:=.store 38 (.tmp 2) (.tmp 52),type:=0,pos:=r,after:=#[{on:=0,ground:=.data},{on:=0,ground:=.phase}],guard:=none}] false) .ret) .skip))
section
variable {P:Program} {F:Fence} {n:Nat}
def uJ {b:Array Oper} {i d:Nat} {o:Oper} {u:Value} {w w':World} {a:Act} {next:Act->World->Prop} {Q:Exit->Act->World->Prop} (r:∀f,F.fn f) (p:b[i]?=some o) (q:o.guard=none) (hd:o.dst=some d) (g:∀c,o.op≠.defer c)
 (e:(execOp a.eval o).run P w=.ok (.value u) w') (k:next (a.put (some d) u) w'):wpOpIn F n P b Q i next a w:=by
 unfold wpOpIn;rw[p]
 have j:Region.wanted o (yielded b a.tmps)=true:=by simp[Region.wanted,q]
 simp only[j,if_true];refine⟨fun _ _=>r _,?_⟩;rw[Oper.semAt_eq _ _ _ g,e];rw[<-hd] at k;exact k
def Og {b:Array Oper} {i:Nat} {o:Oper} {w w':World} {a:Act} {next:Act->World->Prop} {Q:Exit->Act->World->Prop} (q:∀f,F.fn f) (j:b[i]?=some o) (p:o.guard=none) (hd:o.dst=none) (e:∀c,o.op≠.defer c)
 (d:(execOp a.eval o).run P w=.ok .skip w') (k:next a w'):wpOpIn F n P b Q i next a w:=by
 unfold wpOpIn;rw[j]
 have g:Region.wanted o (yielded b a.tmps)=true:=by simp[Region.wanted,p]
 simp only[g,if_true];refine⟨fun _ _=>q _,?_⟩;rw[Oper.semAt_eq _ _ _ e,d];show next (a.put o.dst undef) w';rw[hd];exact k
end
def Ν (T:Array Value) (i j:Nat) (v:Value):(T.setIfInBounds i v).getD j undef=if i=j/\i<T.size then v else T.getD j undef:=by
 simp only[bM,b7]
 by_cases h:i=j
 ·subst h
  by_cases h2:i<T.size
  ·simp[h2]
  ·simp[h2]
 ·simp[h]
noncomputable def VE (D:Nat):Deferred:={target:=.collected D,args:=#[]}
structure Put1 (n₀ rb:Nat) (x:Int) (w W:World):Prop where
 os:W.os=w.os
 tape:W.tape=w.tape
 output:W.output=w.output
 size:w.heap.size<=W.heap.size
 block:∀k,k<n₀->k≠rb->W.heap[k]?=w.heap[k]?
 cell:∃e,W.heap[rb]?=some (.cells #[.int .i64 x] e (0,0))
set_option maxHeartbeats 4000000 in
def Wg {a:Act} {w:World} {Q:Exit->Act->World->Prop} {lb:Array Value} {L:th Int} {rb:Nat} {e0:TypeId} {v0:Value} {p q r:String}
 (U:SeqStopsK Fence.wide 1 Tryz.prog 187 lb (fun x:Int=>#[.int .i64 x]) (Below w.heap.size) (fun xs=>xs=L) (fun i=>i <+: L) L.length w)
 (hg:a.tmps.getD 48 undef=.func (.func 187) #[] lb) (h2:a.tmps.getD 2 undef=.pointer (some ⟨rb,0,none⟩)) (hsz:78<=a.tmps.size)
 (X:w.heap[rb]?=some (.cells #[v0] e0 (0,0)))
 (A:∀D W,(∀x∈L,x=0)->Below w.heap.size w W->w.heap.size<=D->W.heap[D]?=some (.deferred (some []))->Q .normal {a with defers:=VE D::a.defers} W)
 (z:∀D W x,L.find? (fun e=>e != 0)=some x->Put1 w.heap.size rb x w W->w.heap.size<=D->W.heap[D]?=some (.deferred (some []))->Q .ret {a with defers:=VE D::a.defers} W) :
 (Code.rangeFunc (.tmp 48) #[49] (Mo p) (Vz q r)).wpIn Fence.wide 2 Tryz.prog Q a w:=by
 have Z:∀f,Fence.wide.fn f:=fun _=>trivial;have V:=Û X
 refine wpIn_rangeFunc_ownF (α:=Int) (encs:=fun x=>#[.int .i64 x]) (Kp:=Below w.heap.size) (S:=fun xs=>xs=L) (Sp:=fun i=>i <+: L) (N:=L.length) (w0:=w) rfl (by omega) hg trivial (fun args w=>?eg) U
  (fun h k=>h.trans k) (fun W l o o' hl ho hc hw=>belowK_b (bm _) W l o o' hl ho hc hw) (Below.refl _ _) (fun _=>rfl)
  (fun i W=>(∀x∈i,x=0)/\Below w.heap.size w W)
  (fun c i W=>c=.ret/\∃j x,i=j++[x]/\(∀x∈j,x=0)/\x≠0/\Put1 w.heap.size rb x w W)
  ?hI ?hIx ⟨by simp,Below.refl _ _⟩ (fun x=>{tmps:=(a.tmps.setIfInBounds 49 (.int .i64 x)).setIfInBounds 5 (.int .i64 x),defers:=[]}) ?hassign ?hbody ?A ?z
 case eg=>simp[callFunc,Sem.run_bind,run_program,Result.andThen_ok,Tryz.func187,plain 187 _ Tryz.func187,show Tryz.f187.body.isNone=false from rfl]; rfl
 case hI =>
  intro s W W' row ⟨G,h2⟩ g hr;exact⟨G,g.os.trans h2.os,g.tape.trans h2.tape,g.output.trans h2.output,bB h2.size g.size,fun k B=>(g.block k (bu B h2.size) (fun e=>by have:=(hr k e.symm).1; omega)).trans (h2.block k B)⟩
 case hIx =>
  intro c s W W' row ⟨G,j,x,h3,h4,h5,E⟩ g hr;have hb:∀k,k<w.heap.size->W'.heap[k]?=W.heap[k]?:=fun k B=>g.block k (bu B E.size) (fun e=>by have:=(hr k e.symm).1; omega)
  exact⟨G,j,x,h3,h4,h5,g.os.trans E.os,g.tape.trans E.tape,g.output.trans E.output,bB E.size g.size,fun k B H=>(hb k B).trans (E.block k B H),by
   obtain⟨e,he⟩:=E.cell
   exact⟨e,(hb rb V).trans he⟩⟩
 case hassign =>
  intro l x W K hK
  have hf:((#[49]:Array Tmp).zip #[Value.int .i64 x]).foldl (fun t (p,v)=>t.setIfInBounds p v) a.tmps=a.tmps.setIfInBounds 49 (.int .i64 x):=by simp
  rw[hf];refine wpIn_region ?_;rw[show ∀o:Oper,List.range (#[o]:Array Oper).size=[0] from fun _=>rfl,wpOpsIn_cons];refine uJ (d:=5) (u:=.int .i64 x) (w':=W) Z rfl rfl rfl (by simp) ?_ hK;show Result.ok (Next.value ((a.tmps.setIfInBounds 49 (.int .i64 x)).getD 49 undef)) W=_;rw[Ν,if_pos ⟨rfl,by omega⟩]
 case hbody =>
  intro l i x W ⟨G,hbel⟩ hpre;refine wpIn_block (wpIn_seq (wpIn_region ?_));rw[show ∀o p:Oper,List.range (#[o,p]:Array Oper).size=[0,1] from fun _ _=>rfl,wpOpsIn_cons]
  refine uJ (d:=50) (u:=.int .i64 x) (w':=W) Z rfl rfl rfl (by simp) (by
   show Result.ok (Next.value (((a.tmps.setIfInBounds 49 (.int .i64 x)).setIfInBounds 5 (.int .i64 x)).getD 5 undef)) W=_
   rw[Ν,if_pos ⟨rfl,by simp; omega⟩]) ?_
  rw[wpOpsIn_cons]
  refine uJ (d:=51) (u:=.bool (x != 0)) (w':=W) Z rfl rfl rfl (by simp) (by
   show((do let u <-(do eqGuard .neq 38 (.tmp 50) (.const (.int .i64 0)) ((((a.tmps.setIfInBounds 49 (.int .i64 x)).setIfInBounds 5 (.int .i64 x)).setIfInBounds 50 (.int .i64 x)).getD 50 undef) (.int .i64 0); binOp .neq 38 ((((a.tmps.setIfInBounds 49 (.int .i64 x)).setIfInBounds 5 (.int .i64 x)).setIfInBounds 50 (.int .i64 x)).getD 50 undef) (.int .i64 0)); pure (.value u)):Sem Next).run Tryz.prog W=_;rw[Ν,if_pos ⟨rfl,by simp; omega⟩]
   simp[eqGuard,binOp,Op.intCmp]) ?_
  show Code.wpIn (Fence.wide.inRound l) (2-1-1) Tryz.prog (Code.cond (.tmp 51) _ .skip) _ {tmps:=((((a.tmps.setIfInBounds 49 (.int .i64 x)).setIfInBounds 5 (.int .i64 x)).setIfInBounds 50 (.int .i64 x)).setIfInBounds 51 (.bool (x != 0))),defers:=[]} W;obtain⟨T,C⟩:∃T,T=((((a.tmps.setIfInBounds 49 (.int .i64 x)).setIfInBounds 5 (.int .i64 x)).setIfInBounds 50 (.int .i64 x)).setIfInBounds 51 (.bool (x != 0))):=⟨_,rfl⟩;rw[<-C]
  have O:T.getD 51 undef=.bool (x != 0):=by rw[C,Ν,if_pos ⟨rfl,by simp; omega⟩]
  have t5:T.getD 5 undef=.int .i64 x:=by rw[C,Ν,if_neg (by simp),Ν,if_neg (by simp),Ν,if_pos ⟨rfl,by simp; omega⟩]
  have t2:T.getD 2 undef=.pointer (some ⟨rb,0,none⟩):=by rw[C,Ν,if_neg (by simp),Ν,if_neg (by simp),Ν,if_neg (by simp),Ν,if_neg (by simp),h2]
  have tsz:78<=T.size:=by rw[C]; simpa using hsz
  clear C
  by_cases hx:x=0
  ·have M:Act.eval {tmps:=T,defers:=[]} (.tmp 51)=.bool false:=O.trans (by simp[hx]);refine wpIn_cond_false M (wpIn_skip ?_);simp only[Exit.inBlock,ownPostK];exact⟨KeepsOthers.refl _,Below.refl _ _,fun y hy=>(bq.1 hy).elim (G y) (fun h=>by rw[br] at h; rw[h,hx]),hbel⟩
  ·have M:Act.eval {tmps:=T,defers:=[]} (.tmp 51)=.bool true:=O.trans (by simp[hx]);refine wpIn_cond_true M (wpIn_seq (wpIn_region ?_));rw[show ∀o p:Oper,List.range (#[o,p]:Array Oper).size=[0,1] from fun _ _=>rfl,wpOpsIn_cons]
   have e5:(execOp (Act.eval {tmps:=T,defers:=[]}) {dst:=some 52,op:=.move (.tmp 5),type:=38,pos:=r,after:=#[],guard:=none}).run Tryz.prog W=.ok (.value (.int .i64 x)) W:=by
    show Result.ok (Next.value (T.getD 5 undef)) W=_;rw[t5]
   refine uJ (d:=52) (u:=.int .i64 x) (w':=W) Z rfl rfl rfl (by simp) e5 ?_;rw[wpOpsIn_cons];have hW:W.heap[rb]?=some (.cells #[v0] e0 (0,0)):=(hbel.block rb V).trans X
   letI:È:=(Gk (fun _=>False) [] (none))
   have hst:=kH (P:=Tryz.prog) (w:=W) (t:=38) (u:=.int .i64 x) (n:=1) (b:=rb) (o:=0) (by kernel_rfl) rfl hW (by simp) (by simp[Value.cells,Value.oneCell'])
   have R:(storeVar 38 ⟨rb,0,none⟩ (.int .i64 x)).run Tryz.prog W=.ok () (W.setRow rb #[.int .i64 x]):=by simpa[Value.cells] using hst
   have t52:(T.setIfInBounds 52 (.int .i64 x)).getD 52 undef=.int .i64 x:=by rw[Ν,if_pos ⟨rfl,by omega⟩]
   have t2':(T.setIfInBounds 52 (.int .i64 x)).getD 2 undef=.pointer (some ⟨rb,0,none⟩):=by rw[Ν,if_neg (by simp),t2]
   have e6:(execOp (Act.eval {tmps:=T.setIfInBounds 52 (.int .i64 x),defers:=[]}) {dst:=none,op:=.store 38 (.tmp 2) (.tmp 52),type:=0,pos:=r,after:=#[{on:=0,ground:=.data},{on:=0,ground:=.phase}],guard:=none}).run Tryz.prog W=.ok .skip (W.setRow rb #[.int .i64 x]):=by
    show((do Instr.storeAt 38 ((T.setIfInBounds 52 (.int .i64 x)).getD 2 undef) ((T.setIfInBounds 52 (.int .i64 x)).getD 52 undef); pure .skip):Sem Next).run Tryz.prog W=_;rw[t52,t2'];simp[Instr.storeAt,Instr.sureAddr,R]
   refine Og (w':=W.setRow rb #[.int .i64 x]) Z rfl rfl rfl (by simp) e6 ?_;refine wpIn_ret ?_;simp only[Exit.inBlock,ownPostK];refine⟨⟨by simp,fun k o B ho=>?_⟩,trivial,i,x,rfl,G,hx,hbel.os,hbel.tape,hbel.output,by simpa using hbel.size,fun k B H=>(setRow_other _ _ _ _ H).trans (hbel.block k B),⟨_,setRow_heap _ _ _ _ _ _ hW⟩⟩
   by_cases Y:k=rb
   ·subst Y; rw[hW] at B; cases B; simp[Obj.isCells] at ho
   ·rw[setRow_other _ _ _ _ Y]; exact B
 case A =>
  intro D xs W hD hS ⟨G,hbel⟩ J;subst hS;exact A D W G hbel hD J
 case z =>
  intro D c i W hD hS ⟨hc,j,x,h3,h4,h5,E⟩ J;subst hc;refine wpIn_ret (z D W x ?_ E hD J);obtain⟨t,rfl⟩:=hS;rw[h3,bE,List.find?_append]
  have:List.find? (fun e=>e != 0) j=none:=cD.2 fun y hy=>by simp[h4 y hy]
  rw[this];simp[h5]
end Go.Proofs.ZzM
end

noncomputable section
set_option maxRecDepth 100000
namespace Go.Proofs.ZzM
open Go Go.Am Go.RowKit
noncomputable def fstC:Code->Code
 |.seq a _=>a
 |c=>c
noncomputable def sndC:Code->Code
 |.seq _ b=>b
 |c=>c
noncomputable def QE:Nat->Code->Code
 |0,c=>fstC c
 |n+1,c=>QE n (sndC c)
noncomputable def UE:Nat->Code->Code
 |0,c=>c
 |n+1,c=>UE n (sndC c)
noncomputable def ckB:Code:=Tryz.f55.body.getD .skip
noncomputable def ckA5:Code:=fstC (UE 5 ckB |> fstC)
noncomputable def ckRF:Code:=sndC (UE 5 ckB |> fstC)
noncomputable def Fh:Code:=sndC (UE 5 ckB)
noncomputable def ckPre:Code:=.seq (QE 0 ckB) (.seq (QE 1 ckB) (.seq (QE 2 ckB) (.seq (QE 3 ckB) (.seq (QE 4 ckB) ckA5))))
def VT:Tryz.f55.body=some (.seq (QE 0 ckB) (.seq (QE 1 ckB) (.seq (QE 2 ckB) (.seq (QE 3 ckB) (.seq (QE 4 ckB) (.seq (.seq ckA5 ckRF) Fh)))))):=by kernel_rfl
noncomputable def ck_pt:th (Nat×ą):=[(117,Ib),(115,Ai),(113,me),(114,oT)]
noncomputable def ckE (ρ:Type):Env ρ:=î ck_pt []
abbrev ckR:Type:=Int ⊕ (th AV×th Blk)
noncomputable def Sk (S:St):so Int:=match f5 Tryz.prog Tryz.f55 S with
 |some v=>N7 [tI] S.h v
 |none=>none
noncomputable def ckK (e:Exit) (S:St):so ckR:=match e with
 |.ret=>match Sk S with
  |some n=>some (.inl n)
  |none=>none
 |.normal=>match decide (78<=S.t.length) with
  |true=>some (.inr ([lk S.t 1,lk S.t 2,lk S.t 48],S.h))
  |false=>none
 |_=>none
noncomputable def ckH (x:an) (s:ew) (n:Int):th Blk :=
 [.cells (flat Ã x),.cells [.int .i64 n],.cells (flat Ã x),.cells [.mp tI Ì s],.cells [.fn (.func 184) [] [.box 3 0]]]
noncomputable def ckM (x:an):so ckR :=
 Â (Ļ x.1 (0:Int) (1000000:Int)) fun r1=>ifb (!r1) (some (.inl 1)) (ifb (igt (â x.2.1) (12:Int)) (some (.inl 2)) (ifb (igt (â x.2.2.1) (40:Int)) (some (.inl 2)) (ifb (igt (â x.2.2.2.1) (12:Int)) (some (.inl 2)) (ifb (igt (â x.2.2.2.2.1) (40:Int)) (some (.inl 2)) (ifb (igt (â x.2.2.2.2.2) (10:Int)) (some (.inl 2))
  (Â (Į x) fun r2=>ifb (ine r2 (0:Int)) (some (.inl r2)) (Â (Ť x) fun a=>some (.inr ([.box 0 0,.box 1 0,.fn (.func 187) [] [.box 2 0,.box 4 0,.box 3 0]],ckH x a 0)))))))))
def ck_pre (x:an):goC (ckE ckR) (Ō (ckE ckR) 10) 55 [] 0 0 ckPre {t:=zx [Ã] x++List.replicate 77 .any,h:=[]} ckK=ckM x:=by kernel_rfl
noncomputable def US (ρ:Type):Env ρ:={ckE ρ with inl:=fun _=>false}
noncomputable def ckS (x:an):so Int :=
 Â (pW x) fun c=>ifb (igt (â c) (59:Int)) (some (2:Int)) (ck ((2:Int)*(â x.2.1)) fun g=>ck ((â c)-(â x.2.1)) fun f=>ck ((2:Int)*f) fun e=>ck (g+e) fun d=>ck ((2:Int)*(â x.2.2.2.2.1)) fun b=>ck (d+b) fun a=>ifb (igt a (300:Int)) (some (2:Int)) (some (0:Int)))
noncomputable def ckK2 (e:Exit) (S:St):so Int:=match e with
 |.ret=>match lk S.t 2 with
  |.box 1 0=>match lkB S.h 1 with
   |.cells [.int .i64 n]=>some n
   |_=>none
  |_=>none
 |_=>none
def ck_suf (x:an) (s:ew):goC (US Int) (Ō (US Int) 10) 55 [] 0 0 Fh {t:=[.any,.box 0 0,.box 1 0]++List.replicate 75 .any,h:=ckH x s 0} ckK2=ckS x:=by kernel_rfl
def UR (x:an):Ŕ x=match ckM x with
 |none=>none
 |some (.inl n)=>some n
 |some (.inr _)=>Â (Ť x) fun s=>HN (iL x s) some (ckS x):=by
 unfold Ŕ BQ ckM ckS
 cases Ļ x.1 (0:Int) (1000000:Int) with
 |none=>rfl
 |some r1 =>
 cases r1 with
 |false=>rfl
 |true =>
 simp only[Â,ifb,b8]
 cases igt (â x.2.1) (12:Int) with
 |true=>rfl
 |false =>
 cases igt (â x.2.2.1) (40:Int) with
 |true=>rfl
 |false =>
 cases igt (â x.2.2.2.1) (12:Int) with
 |true=>rfl
 |false =>
 cases igt (â x.2.2.2.2.1) (40:Int) with
 |true=>rfl
 |false =>
 cases igt (â x.2.2.2.2.2) (10:Int) with
 |true=>rfl
 |false =>
 cases Į x with
 |none=>rfl
 |some r2 =>
 simp only
 cases ine r2 (0:Int) with
 |true=>rfl
 |false =>
 cases Ť x with
 |none=>rfl
 |some a=>rfl
def Xk {x:an} {q:th AV×th Blk} (h:ckM x=some (.inr q)):((x.2.2.1:th a8).length<=1000/\(x.2.2.2.1:th rd).length<=1000/\(x.2.2.2.2.1:th dx).length<=1000/\(x.2.2.2.2.2:th a8).length<=1000) /\
 ∃s,Ť x=some s/\q=([.box 0 0,.box 1 0,.fn (.func 187) [] [.box 2 0,.box 4 0,.box 3 0]],ckH x s 0):=by
 unfold ckM at h
 cases h0:Ļ x.1 (0:Int) (1000000:Int) with
 |none=>rw[h0] at h; cases h
 |some r1 =>
 rw[h0] at h
 cases r1 with
 |false=>cases h
 |true =>
 simp only[Â,ifb,b8] at h
 cases g:igt (â x.2.1) (12:Int) with
 |true=>rw[g] at h; cases h
 |false =>
 rw[g] at h
 cases h2:igt (â x.2.2.1) (40:Int) with
 |true=>rw[h2] at h; cases h
 |false =>
 rw[h2] at h
 cases c:igt (â x.2.2.2.1) (12:Int) with
 |true=>rw[c] at h; cases h
 |false =>
 rw[c] at h
 cases b:igt (â x.2.2.2.2.1) (40:Int) with
 |true=>rw[b] at h; cases h
 |false =>
 rw[b] at h
 cases a:igt (â x.2.2.2.2.2) (10:Int) with
 |true=>rw[a] at h; cases h
 |false =>
 rw[a] at h
 cases f:Į x with
 |none=>rw[f] at h; cases h
 |some r2 =>
 rw[f] at h;simp only at h
 cases e:ine r2 (0:Int) with
 |true=>rw[e] at h; cases h
 |false =>
 rw[e] at h
 cases d:Ť x with
 |none=>rw[d] at h; cases h
 |some i =>
 rw[d] at h
 have lt:∀{α:Type} (l:th α) (n:Nat),igt (â l) (n:Int)=false->l.length<=n:=by
  intro α l n h;unfold â at h;rw[ź] at h;simp only[igt,gt_iff_lt,decide_eq_false_iff_not] at h;omega
 simp only[Option.some.injEq,Sum.inr.injEq] at h;exact⟨⟨by have:=lt x.2.2.1 40 h2; omega,by have:=lt x.2.2.2.1 12 c; omega,by have:=lt x.2.2.2.2.1 40 b; omega,by have:=lt x.2.2.2.2.2 10 a; omega⟩,i,rfl,h.symm⟩
def uQ {α β:Type} {f:α->so β}:∀{l:th α} {m:th β},Ax f l=some m->m.length=l.length/\∀(i:Nat) (a:α),l[i]?=some a->∃b,m[i]?=some b/\f a=some b
 |[],m,h=>by cases h; exact⟨rfl,fun i a ha=>by simp at ha⟩
 |a::l,m,h=>by
  unfold Ax at h
  cases ha:f a with
  |none=>rw[ha] at h; cases h
  |some b =>
   rw[ha] at h
   cases d:Ax f l with
   |none=>rw[d] at h; cases h
   |some j =>
    rw[d] at h;cases h;obtain⟨g,h2⟩:=uQ d;refine⟨by simp[g],fun i c e=>?_⟩
    cases i with
    |zero=>simp at e; subst e; exact⟨b,by simp,ha⟩
    |succ i=>simpa using h2 i c (by simpa using e)
def zd (l:th Int):upE (fun j=>l[j]?.getD 0) l.length=l:=by
 unfold upE;refine List.ext_getElem (by simp) fun i a h2=>?_;simp at a;simp[a]
def CR.below {a:Nat} {w W:World} {av:Nat->Prop} (hb:Below a w W) (d:w.heap.size<=a) {t:Ty} {x:Val t} {vs:th Value} (h:CR w av t x vs):CR W av t x vs :=
 h.keep fun b c ha=>⟨hb.block b (bu c d),ha⟩
def zP {w:World} {av:Nat->Prop} {xs:th (Int×Int)} {v:Value} (h:CR w av (.slice Ë) xs [v]):∃base cap b off,v=.slice base xs.length cap/\(0<xs.length->base=some ⟨b,off,none⟩/\b<w.heap.size) /\
 ∀j,j<xs.length->w.cell? ⟨b,off+j*2,none⟩=some (.int .i64 (xs[j]?.getD (0,0)).1)/\w.cell? ⟨b,off+j*2+1,none⟩=some (.int .i64 (xs[j]?.getD (0,0)).2):=by
 obtain⟨base,cap,e,x,a⟩:=h;cases e;rcases a with a|⟨b,off,hb,g,d,a⟩
 ·refine⟨base,cap,0,0,rfl,fun h=>?_,fun j c=>?_⟩
  ·rw[show xs=[] from a] at h; simp at h
  ·rw[show xs=[] from a] at c; simp at c
 ·refine⟨base,cap,b,off,rfl,fun _=>⟨hb,d⟩,fun j c=>?_⟩;obtain⟨us,o,h2⟩:=a j xs[j] (bo c);obtain⟨u1,f,r,k,i⟩:=o;have q:u1=[.int .i64 xs[j].1]:=k;have p:f=[.int .i64 xs[j].2]:=i;subst q p r;have s:(Ë).size=2:=rfl;rw[s] at h2;have u:=h2 0 _ rfl;have t:=h2 1 _ rfl;rw[bo c];exact⟨by simpa using u,by simpa[cX] using t⟩
end Go.Proofs.ZzM
end

noncomputable section
set_option maxRecDepth 100000
namespace Go.Proofs.ZzM
open Go Go.Am Go.RowKit
section
variable {w W W':World}
abbrev noG:Nat->Prop:=fun _=>False
def int_arg (w:World) (n:Int):ř w noG tI n (.int .i64 n):=⟨[.int .i64 n],rfl,rfl⟩
def WN {a:Nat} {b:Value} {e:TypeId} {s:ew} (h:w.heap[a]?=some (.cells #[b] e (0,0))) (c:CR w noG (.map tI Ì) s [b]):ř w noG (.ptr (.map tI Ì)) s (.pointer (some ⟨a,0,none⟩)):=by
 letI:È:=(Gk (fun _=>False) [] (none))
 exact⟨[.pointer (some ⟨a,0,none⟩)],⟨a,0,[b],rfl,id,Û h,c,Ċ.of_cells h⟩,rfl⟩
def Wh {y:Int} {u:Value} (h:RR w noG [tI] y u):u=.int .i64 y:=by
 obtain⟨us,a,rfl⟩:=h;have:us=[.int .i64 y]:=a;rw[this]; rfl
def Uz (e:∀b,b<W.heap.size->W'.heap[b]?=W.heap[b]?) (h2:W.heap.size<=W'.heap.size) (d:W'.os=W.os) (c:W'.tape=W.tape) (a:W'.output=W.output):W.grownBy W' none :=
 ⟨d,c,a,h2,fun b hb _=>e b hb⟩
def GV {f:Nat} {p:ą} (b:Globs.Φ W) (g:Ý Tryz.prog f p) (a:p.rs=[tI]) {x:Val (tyL p.ts)} {y:Int} (d:p.F x=some (a▸(show Val (tyL [tI]) from y))) {vals:th Value} (ha:AL W noG p.ts x vals) :
 CallsIn Fence.wide 0 Tryz.prog f vals.toArray W fun e c=>e=.returned (.int .i64 y)/\W.grownBy c none:=by
 obtain⟨ts,rs,F⟩:=p;dsimp only at a d ha x;subst a;refine(g noG x y d W vals (fun _ h=>h.elim) b ha).2.mono fun e w' ⟨u,h0,q,h2,o,k,j,i⟩=>⟨?_,Uz h2 o k j i⟩;rw[h0,Wh q]
noncomputable def zp {k:Nat} (h:Globs.Φ w) (hb:Below k w W) (c:w.heap.size<=k):Globs.Φ W :=
 Globs.keep w W h fun b a=>hb.block b (bu (by obtain⟨o,d,_⟩:=Globs.dat w h b a; exact Û d) c)
def Hm (d:Globs.Φ W) {s:ew} {a b y:Int} (j:ē a b s=some y) {c:Nat} {g:Value} {e:TypeId} (h:W.heap[c]?=some (.cells #[g] e (0,0))) (i:CR W noG (.map tI Ì) s [g]) :
 CallsIn Fence.wide 0 Tryz.prog 184 #[.int .i64 a,.int .i64 b,.pointer (some ⟨c,0,none⟩)] W fun e f=>e=.returned (.int .i64 y)/\W.grownBy f none :=
 GV d LF rfl (x:=(a,b,s)) (y:=y) j (vals:=[.int .i64 a,.int .i64 b,.pointer (some ⟨c,0,none⟩)]) ⟨_,_,rfl,int_arg _ _,_,_,rfl,int_arg _ _,_,rfl,WN h i⟩
def QQ {a:Value} {s:ew} (b:CR W noG (.map tI Ì) s [a]):ř W noG (.map tI Ì) s a:=⟨[a],b,rfl⟩
def NB {x:an} {cs:Array Value} (hb:CR W noG Ã x cs.toList):ř W noG Ã x (.agg cs):=⟨cs.toList,hb,by show Value.agg cs=Value.agg cs.toList.toArray; rw[Array.toArray_toList]⟩
def Q7 (b:Globs.Φ W) {x:an} {s:ew} {i y:Int} (f:ľ x s i=some y) {a:Value} {cs:Array Value} (hb:CR W noG Ã x cs.toList) (d:CR W noG (.map tI Ì) s [a]) :
 CallsIn Fence.wide 0 Tryz.prog 188 #[.agg cs,a,.int .i64 i] W fun e c=>e=.returned (.int .i64 y)/\W.grownBy c none :=
 GV b G4 rfl (x:=(x,s,i)) (y:=y) f (vals:=[.agg cs,a,.int .i64 i]) ⟨_,_,rfl,NB hb,_,_,rfl,QQ d,_,rfl,int_arg _ _⟩
def JM (b:Globs.Φ W) {x:an} {s:ew} {i y:Int} (f:ĕ x s i=some y) {a:Value} {cs:Array Value} (hb:CR W noG Ã x cs.toList) (d:CR W noG (.map tI Ì) s [a]) :
 CallsIn Fence.wide 0 Tryz.prog 189 #[.agg cs,a,.int .i64 i] W fun e c=>e=.returned (.int .i64 y)/\W.grownBy c none :=
 GV b y8 rfl (x:=(x,s,i)) (y:=y) f (vals:=[.agg cs,a,.int .i64 i]) ⟨_,_,rfl,NB hb,_,_,rfl,QQ d,_,rfl,int_arg _ _⟩
end
def jX {w:World} {av:Nat->Prop} {t:Ty} {xs:th (Val t)} {vs:th Value} (h:CR w av (.slice t) xs vs):∃base cap,vs=[.slice base xs.length cap]:=by
 obtain⟨base,cap,e,_⟩:=h;exact⟨base,cap,e⟩
def TU {w:World} (C:Globs.Φ w) {x:an} {s:ew} {H B A G:th Int} (h1:Ax (fun u=>ē u.1 u.2 s) (x.2.2.1:th (Int×Int))=some H) (h2:Ax (fun i=>ľ x s i) (oG (x.2.2.2.1:th rd).length)=some B)
 (h3:Ax (fun i=>ĕ x s i) (oG (x.2.2.2.2.1:th dx).length)=some A) (h4:Ax (fun u=>ē u.1 u.2 s) (x.2.2.2.2.2:th (Int×Int))=some G)
 (t:(x.2.2.1:th a8).length<=1000/\(x.2.2.2.1:th rd).length<=1000/\(x.2.2.2.2.1:th dx).length<=1000/\(x.2.2.2.2.2:th a8).length<=1000)
 {bb tb T:Nat} {te te2 te3:TypeId} {cb:Array Value} {mv:Value} (hbb:w.heap[bb]?=some (.cells cb te (0,0))) (Q:CR w noG Ã x cb.toList) (htb:w.heap[tb]?=some (.cells #[.func (.func 184) #[] #[.pointer (some ⟨T,0,none⟩)]] te2 (0,0)))
 (D:w.heap[T]?=some (.cells #[mv] te3 (0,0))) (E:CR w noG (.map tI Ì) s [mv]) :
 SeqStopsK Fence.wide 1 Tryz.prog 187 #[.pointer (some ⟨bb,0,none⟩),.pointer (some ⟨tb,0,none⟩),.pointer (some ⟨T,0,none⟩)] (fun x:Int=>#[.int .i64 x]) (Below w.heap.size) (fun xs=>xs=H++(B++(A++G))) (fun o=>o <+: (H++(B++(A++G)))) (H++(B++(A++G))).length w:=by
 intro l J Jx W d hJ hJx hY h0;obtain⟨fl,r0,e0,hfl,hr0⟩:=id Q;obtain⟨ga,r1,e1,hga,hr1⟩:=hr0;obtain⟨us,r2,e2,K,hr2⟩:=hr1;obtain⟨lo,r3,e3,hlo,hr3⟩:=hr2;obtain⟨co,ko,e4,hco,M⟩:=hr3;obtain⟨f1,f2,e5,hf1,hf2⟩:=hfl;have e6:f1=[.int .i64 x.1.1]:=hf1;have e7:f2=[.int .i64 x.1.2]:=hf2;obtain⟨gab,gac,e8⟩:=jX hga;obtain⟨Y,X,e9⟩:=jX hlo;obtain⟨cob,coc,e10⟩:=jX hco;obtain⟨usb0,usc0,S⟩:=jX K;obtain⟨kob0,koc0,R⟩:=jX M;rw[S] at K;rw[R] at M;obtain⟨V,U,ub,uo,e13,L,hU⟩:=zP K;obtain⟨kob,Z,kb,kof,e14,N,hK⟩:=zP M;rw[e13] at S;rw[e14] at R
 have O:cb=#[.int .i64 x.1.1,.int .i64 x.1.2,.slice gab (x.2.1:th bl).length gac,.slice V (x.2.2.1:th a8).length U,.slice Y (x.2.2.2.1:th rd).length X,.slice cob (x.2.2.2.2.1:th dx).length coc,.slice kob (x.2.2.2.2.2:th a8).length Z]:=by
  rw[<-bL,e0,e1,e2,e3,e4,e5,e6,e7,e8,e9,e10,S,R];rfl
 obtain⟨g1,q1⟩:=uQ h1;obtain⟨g2,q2⟩:=uQ h2;obtain⟨g3,q3⟩:=uQ h3;obtain⟨g4,q4⟩:=uQ h4
 have gl2:B.length=(x.2.2.2.1:th rd).length:=by rw[g2]; simp[oG]
 have gl3:A.length=(x.2.2.2.2.1:th dx).length:=by rw[g3]; simp[oG]
 have up1:upE (fun j=>H[j]?.getD 0) (x.2.2.1:th a8).length=H:=by rw[<-g1]; exact zd H
 have up2:upE (fun j=>B[j]?.getD 0) (x.2.2.2.1:th rd).length=B:=by rw[<-gl2]; exact zd B
 have up3:upE (fun j=>A[j]?.getD 0) (x.2.2.2.2.1:th dx).length=A:=by rw[<-gl3]; exact zd A
 have up4:upE (fun j=>G[j]?.getD 0) (x.2.2.2.2.2:th a8).length=G:=by rw[<-g4]; exact zd G
 have at1:∀{xs:th (Int×Int)} {z:th Int},(∀(i:Nat) (a:Int×Int),xs[i]?=some a->∃b,z[i]?=some b/\ē a.1 a.2 s=some b)->∀j,j<xs.length->ē (xs[j]?.getD (0,0)).1 (xs[j]?.getD (0,0)).2 s=some (z[j]?.getD 0):=by
  intro xs z hq j k;obtain⟨b,hb,hf⟩:=hq j xs[j] (bo k);rw[bo k,hb];exact hf
 have at2:∀{n:Nat} {z:th Int} {f:Int->so Int},(∀(i:Nat) (a:Int),(oG n)[i]?=some a->∃b,z[i]?=some b/\f a=some b)->∀j,j<n->f (j:Int)=some (z[j]?.getD 0):=by
  intro n z f hq j k;obtain⟨b,hb,hf⟩:=hq j j (by simp[oG,k]);rw[hb]; exact hf
 have c:∀{W':World},Below w.heap.size W W'->Below w.heap.size w W':=fun h=>d.trans h;have g:∀{W':World} {p:Addr} {v:Value},Below w.heap.size w W'->w.cell? p=some v->p.block<w.heap.size->W'.cell? p=some v:=fun {W'} {p} {v} h hc hp=>(h.cell (p:=p) hp).trans hc;have lb:=Û hbb;have lt:=Û htb;have z:=Û D
 have:=T6 te 1 (by omega) l w.heap.size bb tb T (.int .i64 x.1.1) (.int .i64 x.1.2) (.slice gab (x.2.1:th bl).length gac) mv lb lt z
  ub uo (x.2.2.1:th a8).length U kb kof (x.2.2.2.2.2:th a8).length Z V kob Y cob (x.2.2.2.1:th rd).length X (x.2.2.2.2.1:th dx).length coc L N
  (fun j=>(x.2.2.1:th (Int×Int))[j]?.getD (0,0)) (fun j=>(x.2.2.2.2.2:th (Int×Int))[j]?.getD (0,0)) (fun j=>H[j]?.getD 0) (fun j=>B[j]?.getD 0) (fun j=>A[j]?.getD 0) (fun j=>G[j]?.getD 0)
  t.1 t.2.1 t.2.2.1 t.2.2.2 W ((d.block bb lb).trans (by rw[hbb,O])) (g d (by simp[World.cell?,htb]) lt) (g d (by simp[World.cell?,D]) z)
  (fun j k=>⟨g d (hU j k).1 (L (by omega)).2,g d (hU j k).2 (L (by omega)).2⟩) (fun j k=>⟨g d (hK j k).1 (N (by omega)).2,g d (hK j k).2 (N (by omega)).2⟩)
  (fun j k W' q=>Hm (zp C (c q) (bm _)) (at1 q1 j k) (((c q).block T z).trans D) (CR.below (c q) (bm _) E))
  (fun j k W' q=>Hm (zp C (c q) (bm _)) (at1 q4 j k) (((c q).block T z).trans D) (CR.below (c q) (bm _) E))
  (fun j k W' q=>Q7 (zp C (c q) (bm _)) (at2 q2 j k) (by have:=CR.below (c q) (bm _) Q; rwa [O] at this) (CR.below (c q) (bm _) E))
  (fun j k W' q=>JM (zp C (c q) (bm _)) (at2 q3 j k) (by have:=CR.below (c q) (bm _) Q; rwa [O] at this) (CR.below (c q) (bm _) E))
  J Jx (fun o W1 W2 k hg=>hJ o W1 W2 none k hg (fun r e=>by cases e)) (fun o W1 W2 k hg=>hJx o W1 W2 none k hg (fun r e=>by cases e))
  (fun o y W1 k hl=>hY o y W1 k (by simp only[bp]; omega)) h0 d.size
 rw[up1,up2,up3,up4] at this;exact this
end Go.Proofs.ZzM
end

noncomputable section
set_option maxRecDepth 100000
namespace Go.Proofs.ZzM
open Go Go.Am Go.RowKit
section
variable [È] {ρ:Type} {ν:Nat->Value} {w:World}
def peel (k:È.Q=none) {E:Env ρ} {call:th Nat->Bool->Nat->th AV->th Blk->(AV->th Blk->so ρ)->so ρ} {L:Nat} (t:Ÿ E L call) (u:gM E L call) (q:E.joins=fun _ _ _ _=>none) {fid:Nat} {path:th Nat} (o:path.length+2=L) {x y c:Code} {bid n:Nat} {S:St} {K:Exit->St->so ρ} {r:ρ} {a:Act} {Q:Exit->Act->World->Prop}
 (s:∀z∈Õ bid x,Χ E path fid z.1 z.2) (e:goC E call fid path 0 bid (.seq x y) S K=some r) (H:Sim ν S a w)
 (p:∀ν' b d w',Sim ν' b d w'->Ev 0 ν S.h w ν' b.h w'->goC E call fid path 0 bid y b K=some r->c.wpIn Fence.wide n E.P Q d w')
 (i:∀ν' b d w' e,e≠.normal->Sim ν' b d w'->Ev 0 ν S.h w ν' b.h w'->K e b=some r->Q e d w'):(Code.seq x c).wpIn Fence.wide n E.P Q a w:=by
 simp only[goC,q] at e;have j:=ψ t u o x bid S _ ν a w s e H (bO _);rw[qO k] at j;refine wpIn_seq (wpIn_wide.2 (wpIn_wide.1 (wpIn_mono j fun v d w' ha=>?_)));obtain⟨ν',b,g,h2,B,A,f⟩:=ha
 cases v with
 |normal=>exact p ν' b d w' g h2 f
 |exit id=>exact i ν' b d w' _ (by simp) g h2 f
 |goto l=>exact i ν' b d w' _ (by simp) g h2 f
 |ret=>exact i ν' b d w' _ (by simp) g h2 f
 |panic ch=>exact i ν' b d w' _ (by simp) g h2 f
 |outgrown=>exact i ν' b d w' _ (by simp) g h2 f
end
def Qf {T:Array Value} {rb:Nat} {n:Int} {e:TypeId} {W:World} (h2:T.getD 2 undef=.pointer (some ⟨rb,0,none⟩)) (f:W.heap[rb]?=some (.cells #[.int .i64 n] e (0,0))):(results Tryz.f55 T).run Tryz.prog W=.ok (.int .i64 n) W:=by
 letI:È:=(Gk (fun _=>False) [] (none))
 have d:(loadVar 38 ⟨rb,0,none⟩).run Tryz.prog W=.ok (.int .i64 n) W:=by
  have:=mS (P:=Tryz.prog) (w:=W) (t:=38) (agg:=false) (n:=1) (by kernel_rfl) (us:=[.int .i64 n]) rfl (fun _=>rfl) (a:=⟨rb,0,none⟩) (fun j v b=>by
   have:=Ċ.of_cells f j v (by simpa using b)
   cases j with
   |zero=>simpa[Addr.add] using this
   |succ j=>simp at b)
  exact this
 have c:Tryz.f55.results=#[.cell 2 38]:=by kernel_rfl
 unfold results;rw[c,Array.mapM_eq_mapM_toList];simp only[Sem.run_bind,Sem.run_map,List.mapM_cons,List.mapM_nil,h2,asAddr,Sem.run_pure,Result.andThen_ok,d];rfl
@[reducible] noncomputable def gck (G:Nat->Prop) (M:Nat):È:=(Gh G).re G [] none M
def Xr [È] {ν:Nat->Value} {h:th Blk} {w:World} {x:an} {us:th Value} (a:ê (VRc ν h w) (flat Ã x) us):CR w noG Ã x us:=by
 have e:Ø Ã (flat Ã x)=some x:=rfl;have h2:ê (VRs w (Av ν h)) (flat Ã x) us:=a.mono fun c u b=>b.1.data;exact CR.mono (fun _ d=>d.elim) (ÿ e h2)
def sQ (G:Nat->Prop) (y:Int) (w:World) (e:Ending) (w':World):Prop :=
 ∃u,e=.returned u/\RR w' G [tI] y u/\(∀b,b<w.heap.size->w'.heap[b]?=w.heap[b]?)/\w.heap.size<=w'.heap.size/\w'.os=w.os/\w'.tape=w.tape/\w'.output=w.output
def Nw {G:Nat->Prop} {y:Int} {w0 w:World} {a:Act} {ms:th Nat} {rb:Nat} {e:TypeId} (hd:a.defers=ms.map mk1) (s:ms.Nodup) (i:∀k∈ms,w.heap[k]?=some (.deferred (some []))/\w0.heap.size<=k) (h2:a.tmps.getD 2 undef=.pointer (some ⟨rb,0,none⟩)) (g:w.heap[rb]?=some (.cells #[.int .i64 y] e (0,0)))
 (hb:∀b,b<w0.heap.size->w.heap[b]?=w0.heap[b]?) (c:w0.heap.size<=w.heap.size) (z:w.os=w0.os) (x:w.tape=w0.tape) (v:w.output=w0.output):LeavesInM Fence.wide 2 Tryz.prog Tryz.f55 a.tmps (sQ G y w0) a.defers .returning w:=by
 rw[hd]
 have d:rb∉ms:=fun h=>by rw[(i rb h).1] at g; cases g
 refine fU ms w s (fun k u=>(i k u).1) fun A r q p o j=>?_;exact⟨.int .i64 y,Qf h2 ((j rb d).trans g),.int .i64 y,rfl,⟨[.int .i64 y],rfl,rfl⟩,fun b f=>(j b fun t=>by have:=(i b t).2; omega).trans (hb b f),by rw[r]; exact c,q.trans z,p.trans x,o.trans v⟩
def Xl (S:St):ckK .ret S=(Sk S).map .inl:=by
 unfold ckK
 cases Sk S<;>rfl
def Pe (S:St):ckK .normal S=if decide (78<=S.t.length)=true then some (.inr ([lk S.t 1,lk S.t 2,lk S.t 48],S.h)) else none:=by
 unfold ckK
 cases decide (78<=S.t.length)<;>rfl
def fP [È] {ρ:Type} {E:Env ρ} (h0:E.loops=Μ []) (c:E.ranges=fun _ _ _ _ _ _ _=>none) {path:th Nat} {fid bid:Nat} {b:LI}:Χ E path fid bid b:=by
 cases b with
 |lp b=>exact fun m S K r ν a w e=>by rw[h0] at e; cases e
 |rf g ps x y=>exact fun m S K r ν a w e=>by rw[c] at e; cases e
def VS {ρ:Type} (E:Env ρ) (e:E.P.follows .mixedOrders=true) (a:∀[È],Ŭ E->wx E) (h0:E.loops=Μ []) (g:E.ranges=fun _ _ _ _ _ _ _=>none) (d:E.yld=none) [È]:Ÿ E 2 (Ō E 10) :=
 ij a (fun L call b=>Α e L call b) (fun n i b _ _ path f fn c _ _ _ z _=>fP h0 g) 10 (bm _) (ō d)
noncomputable def Wk:Code->String
 | .region _ ops _ => ((ops[0]?).map fun o => o.pos).getD ""
 | _ => ""
noncomputable def rfA:Code->Code
 |.block _ (.rangeFunc _ _ a _)=>a
 |_=>.skip
noncomputable def rfB:Code->Code
 |.block _ (.rangeFunc _ _ _ (.block _ (.seq a _)))=>a
 |_=>.skip
noncomputable def rfC:Code->Code
 |.block _ (.rangeFunc _ _ _ (.block _ (.seq _ (.cond _ (.seq a _) _))))=>a
 |_=>.skip
def Xj:ckRF=Code.block 0 (Code.rangeFunc (.tmp 48) #[49] (Mo (Wk (rfA ckRF))) (Vz (Wk (rfB ckRF)) (Wk (rfC ckRF)))):=by kernel_rfl
def VQ:∀e∈ck_pt,Ý Tryz.prog e.1 e.2:=Á SK (Á LD (Á rn (Á CK Ä)))
def Sl {e:Exit} {S:St} {n:Int} (h:ckK2 e S=some n):e=.ret/\lk S.t 2=.box 1 0/\lkB S.h 1=.cells [.int .i64 n]:=by
 unfold ckK2 at h
 split at h
 ·split at h
  ·rename_i h2
   split at h
   ·rename_i a;cases h;exact⟨rfl,h2,a⟩
   ·cases h
  ·cases h
 ·cases h
def Jk [È] {ν:Nat->Value} {h:th Blk} {w:World} {n:Int} {id:Nat} (H:HR ν h w) (d:lkB h id=.cells [.int .i64 n]):∃b e,ν id=.pointer (some ⟨b,0,none⟩)/\w.heap[b]?=some (.cells #[.int .i64 n] e (0,0)):=by
 have a:=H.blk id;rw[d] at a;obtain⟨b,c,e,k,h2,j⟩:=a;obtain⟨u,i,g⟩:=j.one;have f:u=.int .i64 n:=g.1;refine⟨b,e,k,?_⟩;rw[h2]
 have:c=#[.int .i64 n]:=by rw[<-bL,i,f]
 rw[this]
def qf [È] {ν:Nat->Value} {h:th Blk} {w:World} {id off:Nat} {v:Value} {b:Nat} (a:VR ν h w (.box id off) v) (hb:ν id=.pointer (some ⟨b,0,none⟩)):v=.pointer (some ⟨b,off,none⟩):=by
 obtain⟨cs,e,d,h2,c⟩:=a;rw[hb] at h2;cases h2;exact c
def Xi {G:Nat->Prop} {x:an} {s:ew} {y:Int} (V:ckS x=some y) {ν:Nat->Value} {w0 c W:World} {a:Act} (H:@HR _ (gck G w0.heap.size) ν (ckH x s 0) c) (hb:Below c.heap.size c W) {ms:th Nat} (hd:a.defers=ms.map mk1) (U:ms.Nodup) (E:∀k∈ms,W.heap[k]?=some (.deferred (some []))/\w0.heap.size<=k) (r:78<=a.tmps.size)
 (t1:@VR _ (gck G w0.heap.size) ν (ckH x s 0) c (.box 0 0) (a.tmps.getD 1 undef)) (t2:@VR _ (gck G w0.heap.size) ν (ckH x s 0) c (.box 1 0) (a.tmps.getD 2 undef))
 (h0:∀b,b<w0.heap.size->c.heap[b]?=w0.heap[b]?/\¬jc ν (ckH x s 0) b) (D:w0.heap.size<=c.heap.size) (u:c.os=w0.os) (Y:c.tape=w0.tape) (X:c.output=w0.output) :
 Fh.wpIn Fence.wide 2 Tryz.prog (bodyPostM Fence.wide 2 Tryz.prog Tryz.f55 (sQ G y w0)) a W:=by
 have J:∀b,jc ν (ckH x s 0) b->b<c.heap.size:=fun b M=>@HR.ltA _ (gck G w0.heap.size) _ _ _ H b (.inl M)
 have B:∃b,ν 0=.pointer (some ⟨b,0,none⟩)/\a.tmps.getD 1 undef=.pointer (some ⟨b,0,none⟩):=by
  obtain⟨cs,b,_,h2,u⟩:=t1;exact⟨b,h2,u⟩
 have A:∃b,ν 1=.pointer (some ⟨b,0,none⟩)/\a.tmps.getD 2 undef=.pointer (some ⟨b,0,none⟩):=by
  obtain⟨cs,b,_,h2,u⟩:=t2;exact⟨b,h2,u⟩
 letI:È:=gck G w0.heap.size
 have H1:HR ν (ckH x s 0) c:=H;have H2:HR ν (ckH x s 0) W:=(H1.grow (fun b g=>hb.block b g) hb.size hb.os hb.tape hb.output 0).2;have j:∀L call,Ÿ (US Int) L call->gM (US Int) L call:=Α hmix;have K:(US Int).loops=Μ []:=rfl;have f:Ÿ (US Int) 2 (Ō (US Int) 10):=VS (US Int) hmix (fun {_} _=>DJ VQ (US Int) rfl rfl rfl rfl rfl (Œ rfl) (nO rfl) (ō rfl)) rfl rfl rfl;have law:=ck_suf x s;rw[V] at law
 have C:Sim ν {t:=[.any,.box 0 0,.box 1 0]++List.replicate 75 .any,h:=ckH x s 0} a W:=by
  refine⟨⟨⟨ms,hd.trans (bH _).symm,U,E⟩,fun l M=>(by cases M),bO _,bB D hb.size⟩,by simpa using r,fun i=>?_,H2⟩;simp only[BW];rcases i with _|_|_|i
  ·trivial
  ·obtain⟨b,o,d⟩:=B;exact⟨_,b,rfl,o,d⟩
  ·obtain⟨b,o,d⟩:=A;exact⟨_,b,rfl,o,d⟩
  ·trivial
 refine wpIn_wide.2 (wpIn_wide.1 (wpIn_mono (ψ f (j _ _ f) rfl Fh 0 _ _ ν a W (fun z _=>fP K rfl) law C (bO _)) fun e a' w' ha=>?_));obtain⟨ν',S',o,d,_,_,Z⟩:=ha;obtain⟨rfl,k2,k3⟩:=Sl Z;obtain⟨rb,te,r1,r2⟩:=Jk o.heap k3;have N:=o.tmps 2;rw[k2] at N;have O:=qf N r1;obtain⟨⟨Q,T,S,R⟩,_⟩:=o.defers;refine Nw (w:=w') (a:=a') (G:=G) (y:=y) (w0:=w0) (rb:=rb) (T.trans (bH _)) S R O r2 (fun b g=>?_) (by have:=d.size; have:=hb.size; omega) (d.os.trans (hb.os.trans u)) (d.tape.trans (hb.tape.trans Y)) (d.output.trans (hb.output.trans X));have v:=h0 b g
 have q:b<c.heap.size:=by omega
 have p:b<W.heap.size:=by have:=hb.size; omega
 exact(d.keep b p v.2).1.trans ((hb.block b q).trans v.1)
set_option maxHeartbeats 2000000 in
def Pf (G:Nat->Prop) (x:an) (y:Int) (A:Ŕ x=some y) (w:World) (vals:th Value) (hG:∀b,G b->b<w.heap.size) (hΦ:Globs.Φ w) (hAL:AL w G [Ã] x vals) :
 (∃fn c,Tryz.prog.funcs[55]?=some fn/\fn.body=some c)/\CallsIn Fence.wide 0 Tryz.prog 55 vals.toArray w (sQ G y w):=by
 rw[UR] at A
 letI:È:=gck G w.heap.size
 have hpt:=VQ;have hdraw:∀L call,Ÿ (ckE ckR) L call->gM (ckE ckR) L call:=Α hmix;have h0:(ckE ckR).loops=Μ []:=rfl;have p:Ÿ (ckE ckR) 2 (Ō (ckE ckR) 10):=VS (ckE ckR) hmix (fun {_} _=>DJ hpt (ckE ckR) rfl rfl rfl rfl rfl (Œ rfl) (nO rfl) (ō rfl)) rfl rfl rfl;have hD:=hdraw _ _ p;have H:HR (fun _=>undef) [] w:=⟨fun _=>trivial,fun _ _ _ h=>(by cases h),hG,fun _ _ h=>(by cases h),hΦ,fun _ _ ⟨_,h,_⟩=>(by cases h)⟩;have hav:∀b,Av (fun _=>undef) [] b->G b:=fun b hb=>hb.elim (fun⟨_,h,_⟩=>by cases h) id;have E:ê (VR (fun _=>undef) [] w) (zx [Ã] x) vals:=AL.VR (hAL.mono hav);refine⟨⟨Tryz.f55,_,Tryz.func55,VT⟩,?_⟩
 have hlen:vals.length=1:=by
  have:=E.length;simpa[zx,RQ] using this.symm
 cases hM:ckM x with
 |none=>rw[hM] at A; cases A
 |some r0 =>
 rw[hM] at A;have law:=ck_pre x;rw[hM] at law;refine callsIn_wide.2 (callsIn_wide.1 (callsIn_of_wp_marks (n:=2) Tryz.func55 VT trivial ?_ (R:=sQ G y w)))
 have hS:Sim (fun _=>undef) {t:=zx [Ã] x++List.replicate 77 .any,h:=[]} {tmps:=vals.toArray++Array.replicate (Tryz.f55.ntmps-vals.toArray.size) undef,defers:=[]} w:=by
  refine⟨⟨⟨[],rfl,cM,fun _ h=>(by cases h)⟩,fun l hl=>(by cases hl),bO _,bm _⟩,?_,fun i=>?_,H⟩
  ·have:Tryz.f55.ntmps=78:=by kernel_rfl
   have hl2:(zx [Ã] x).length=1:=rfl;simp[this,hlen,hl2]
  ·simp only[BW];rcases bZ i (zx [Ã] x).length with hi|hi
   ·have:=ê.lk (R:=VR (fun _=>undef) [] w) (fun _=>trivial) i E
    have hv:i<vals.length:=by rw[<-E.length]; exact hi
    have h2:(vals.toArray++Array.replicate (Tryz.f55.ntmps-vals.toArray.size) undef).getD i undef=vals.getD i undef:=by
     simp[bM,cI,hv]
    rw[h2]; exact this
   ·rw[Rb _ _ hi]; trivial
 -- the ways out ahead of the loop
 have out:∀ν' V a' w' e,e≠.normal->Sim ν' V a' w'->Ev 0 (fun _=>undef) [] w ν' V.h w'->ckK e V=some r0->bodyPostM Fence.wide 2 Tryz.prog Tryz.f55 (sQ G y w) e a' w':=by
  intro ν' V a' w' e U r J d
  cases e with
  |normal=>exact(U rfl).elim
  |ret =>
   rw[Xl] at d
   cases hr:Sk V with
   |none=>rw[hr] at d; cases d
   |some n =>
    rw[hr,ce] at d;cases d
    have hyn:n=y:=by simpa using A
    subst hyn;unfold Sk at hr
    split at hr
    ·rename_i v hv;show LeavesInM _ _ _ _ _ _ a'.defers _ _;obtain⟨⟨ms,m1,m2,m3⟩,_,m4,m5⟩:=r.defers;rw[show a'.defers=ms.map mk1 from m1.trans (bH _)];refine fU ms w' m2 (fun k d=>(m3 k d).1) fun w2 q1 q2 q3 q4 q5=>?_
     have hk2:∀(b:Nat) (o:Obj),w'.heap[b]?=some o->xP o=true\/b<(gck G w.heap.size).B->w2.heap[b]?=some o:=fun b o hb hd=>by
      have hbm:b∉ms:=fun hm=>by
       rw[(m3 b hm).1] at hb; cases hb;rcases hd with hd|hd
       ·cases hd
       ·exact absurd hd (Nat.not_lt_zero _)
      rw[q5 b hbm]; exact hb
     have KG:ŭ (gck G w.heap.size) ν' V.h w' (gck G w.heap.size).G w2:=ŭ.nds q2 q3 q4 (by omega) hk2
     have sim2:Sim ν' V {a' with defers:=[]} w2:=⟨⟨⟨[],rfl,cM,fun _ h=>(by cases h)⟩,fun l hl=>(by cases hl),bO _,by rw[q1]; exact m5⟩,r.len,fun i=>VR.step (g:=gck G w.heap.size) (D:=[]) (Q:=none) (M:=w.heap.size) KG (r.tmps i),
      HR.step (g:=gck G w.heap.size) (D:=[]) (Q:=none) (M:=w.heap.size) KG (fun b hb=>by rw[q1]; exact r.heap.ghlt b hb) (fun b hb hg=>by obtain⟨id,h1,h2⟩:=hb; exact r.heap.ghne id b h1 h2 hg) r.heap⟩
     obtain⟨u,r1,r2⟩:=wE sim2 hv;exact⟨u,r1,u,rfl,FD sim2.heap [tI] r2 hr,fun b hb=>(q5 b fun hm=>by have m7:w.heap.size<=b:=(m3 b hm).2; omega).trans (J.keep b hb fun⟨_,h,_⟩=>by cases h).1,by rw[q1]; exact J.size,q2.trans J.os,q3.trans J.tape,q4.trans J.output⟩
    ·cases hr
  |exit id=>cases d
  |goto l=>cases d
  |panic ch=>cases d
  |outgrown=>cases d
 have K:∀{Z:Nat->Value} {h₁:th Blk} {w₁:World},Ev 0 (fun _=>undef) [] w Z h₁ w₁->∀ν' V a' w' e,e≠.normal->Sim ν' V a' w'->Ev 0 Z h₁ w₁ ν' V.h w'->ckK e V=some r0->bodyPostM Fence.wide 2 Tryz.prog Tryz.f55 (sQ G y w) e a' w' :=
  fun hE ν' V a' w' e U r J d=>out ν' V a' w' e U r (hE.trans J (bm _)) d
 refine peel rfl p hD rfl rfl (fun z _=>fP h0 rfl) law hS (fun ν1 S1 a1 w1 s1 e1 k1=>?_) out;refine peel rfl p hD rfl rfl (fun z _=>fP h0 rfl) k1 s1 (fun ν2 S2 a2 w2 s2 e2 k2=>?_) (K e1);have t2:=e1.trans e2 (bm _);refine peel rfl p hD rfl rfl (fun z _=>fP h0 rfl) k2 s2 (fun ν3 S3 a3 w3 s3 e3 k3=>?_) (K t2);have t3:=t2.trans e3 (bm _);refine peel rfl p hD rfl rfl (fun z _=>fP h0 rfl) k3 s3 (fun ν4 S4 a4 w4 s4 e4 k4=>?_) (K t3);have t4:=t3.trans e4 (bm _);refine peel rfl p hD rfl rfl (fun z _=>fP h0 rfl) k4 s4 (fun ν5 S5 a5 w5 s5 e5 k5=>?_) (K t4);have t5:=t4.trans e5 (bm _);refine wpIn_seq (wpIn_seq (wpIn_wide.2 (wpIn_wide.1 (wpIn_mono (ψ p hD rfl ckA5 0 S5 _ ν5 a5 w5 (fun z _=>fP h0 rfl) k5 s5 (bO _)) fun e' a6 N ha=>?_))));obtain⟨ν,S,X,e6,_,_,k6⟩:=ha;have O:=t5.trans e6 (bm _)
 have f:∀e,e≠.normal->ckK e S=some r0->Exit.then (Code.wpIn Fence.wide 2 Tryz.prog Fh (bodyPostM Fence.wide 2 Tryz.prog Tryz.f55 (sQ G y w))) (bodyPostM Fence.wide 2 Tryz.prog Tryz.f55 (sQ G y w)) e a6 N:=by
  intro e U d;have:=out ν S a6 N e U X O d
  cases e<;>first|exact(U rfl).elim|exact this
 cases e' with
 |exit id=>exact f _ (by simp) k6
 |goto l=>exact f _ (by simp) k6
 |ret=>exact f _ (by simp) k6
 |panic ch=>exact f _ (by simp) k6
 |outgrown=>exact f _ (by simp) k6
 |normal =>
 clear f;rw[Pe] at k6
 split at k6<;>try (cases k6; done)
 rename_i h78
 have h78':78<=S.t.length:=by simpa using h78
 cases k6;obtain⟨hlens,s,hs,hq⟩:=Xk hM;simp only[Prod.mk.injEq,List.cons.injEq,and_true] at hq;obtain⟨⟨q1,q2,q48⟩,qh⟩:=hq
 have hF2:HN (iL x s) some (ckS x)=some y:=by
  simp only at A;rw[hs] at A;exact A
 -- what the errors are
 obtain⟨L,Y,hLy⟩:∃L,iL x s=some L/\(match L.find? (fun e=>e != 0) with|some e=>some e|none=>ckS x)=some y:=by
  unfold HN at hF2
  cases hl:iL x s with
  |none=>rw[hl] at hF2; cases hF2
  |some L=>rw[hl] at hF2; exact⟨L,rfl,hF2⟩
 obtain⟨l1,l2,l3,l4,m1,m2,m3,m4,rfl⟩:∃l1 l2 l3 l4,Ax (fun u=>ē u.1 u.2 s) (x.2.2.1:th (Int×Int))=some l1/\Ax (fun i=>ľ x s i) (oG (x.2.2.2.1:th rd).length)=some l2 /\
  Ax (fun i=>ĕ x s i) (oG (x.2.2.2.2.1:th dx).length)=some l3/\Ax (fun u=>ē u.1 u.2 s) (x.2.2.2.2.2:th (Int×Int))=some l4/\L=l1++(l2++(l3++l4)):=by
  unfold iL at Y
  cases m1:Ax (fun u=>ē u.1 u.2 s) (x.2.2.1:th (Int×Int)) with
  |none=>rw[m1] at Y; cases Y
  |some l1 =>
  rw[m1] at Y
  cases m2:Ax (fun i=>ľ x s i) (oG (x.2.2.2.1:th rd).length) with
  |none=>simp only[Â,m2] at Y; cases Y
  |some l2 =>
  cases m3:Ax (fun i=>ĕ x s i) (oG (x.2.2.2.2.1:th dx).length) with
  |none=>simp only[Â,m2,m3] at Y; cases Y
  |some l3 =>
  cases m4:Ax (fun u=>ē u.1 u.2 s) (x.2.2.2.2.2:th (Int×Int)) with
  |none=>simp only[Â,m2,m3,m4] at Y; cases Y
  |some l4 =>
  simp only[Â,m2,m3,m4] at Y;cases Y;exact⟨l1,l2,l3,l4,rfl,rfl,rfl,rfl,rfl⟩
 -- the blocks
 obtain⟨T,Hh⟩:=S;dsimp only at q1 q2 q48 qh h78';subst qh;have p1:=X.tmps 1;have p2:=X.tmps 2;have p48:=X.tmps 48;dsimp only at p1 p2 p48;rw[q1] at p1;rw[q2] at p2;rw[q48] at p48;obtain⟨rb,te1,n1,hrb⟩:=Jk (id:=1) (n:=0) X.heap rfl;have hB2:BR ν (ckH x s 0) N 2 (.cells (flat Ã x)):=X.heap.blk 2;have hB3:BR ν (ckH x s 0) N 3 (.cells [.mp tI Ì s]):=X.heap.blk 3;have hB4:BR ν (ckH x s 0) N 4 (.cells [.fn (.func 184) [] [.box 3 0]]):=X.heap.blk 4;obtain⟨bb,cb,te,n2,hbb,hb2⟩:=hB2;obtain⟨sb,cs3,te3,n3,hsb,hb3⟩:=hB3;obtain⟨tb,cs4,te2,n4,htb,hb4⟩:=hB4;obtain⟨mv,z3,hm3⟩:=hb3.one;obtain⟨fv,z4,hm4⟩:=hb4.one;have hmv:CR N noG (.map tI Ì) s [mv]:=CR.mono (fun _ hf=>hf.elim) (show CR N (Av ν (ckH x s 0)) (.map tI Ì) s [mv] from hm3.1)
 have hc3:cs3=#[mv]:=by rw[<-bL,z3]
 have hfv:fv=.func (.func 184) #[] #[.pointer (some ⟨sb,0,none⟩)]:=by
  obtain⟨fs,cs,h1,h2,h3⟩:=hm4.1
  have e1:fs=#[]:=by rw[<-bL]; exact h2.nil_left
  obtain⟨u,e2,h4⟩:=h3.one;have e3:u=.pointer (some ⟨sb,0,none⟩):=qf (w:=N) (id:=3) (off:=0) h4 n3
  have e4:cs=#[.pointer (some ⟨sb,0,none⟩)]:=by rw[<-bL,e2,e3]
  rw[h1,e1,e4]
 have hc4:cs4=#[fv]:=by rw[<-bL,z4]
 rw[hc3] at hsb;rw[hc4,hfv] at htb
 have hg:a6.tmps.getD 48 undef=.func (.func 187) #[] #[.pointer (some ⟨bb,0,none⟩),.pointer (some ⟨tb,0,none⟩),.pointer (some ⟨sb,0,none⟩)]:=by
  obtain⟨fs,cs,h1,h2,h3⟩:=p48
  have e1:fs=#[]:=by rw[<-bL]; exact h2.nil_left
  have hl:=h3.length
  obtain⟨u1,u2,u3,e2⟩:∃u1 u2 u3,cs.toList=[u1,u2,u3]:=by
   rcases hcs:cs.toList with _|⟨u1,_|⟨u2,_|⟨u3,_|⟨u4,t⟩⟩⟩⟩<;>rw[hcs] at hl<;>simp at hl
   exact⟨u1,u2,u3,rfl⟩
  rw[e2] at h3;have e3:u1=.pointer (some ⟨bb,0,none⟩):=qf (w:=N) (id:=2) (off:=0) h3.1 n2;have e4:u2=.pointer (some ⟨tb,0,none⟩):=qf (w:=N) (id:=4) (off:=0) h3.2.1 n4;have e5:u3=.pointer (some ⟨sb,0,none⟩):=qf (w:=N) (id:=3) (off:=0) h3.2.2.1 n3;rw[h1,e1];congr 1;rw[<-bL,e2,e3,e4,e5]
 have hseq:=TU X.heap.glob m1 m2 m3 m4 hlens hbb (Xr hb2) htb hsb hmv;have h2:=qf p2 n1;have hsz:78<=a6.tmps.size:=bB h78' X.len
 have C:∀b,b<w.heap.size->N.heap[b]?=w.heap[b]?/\¬jc ν (ckH x s 0) b:=fun b hb=>O.keep b hb fun⟨_,h,_⟩=>by cases h
 obtain⟨⟨ms,m1',m2',q⟩,_⟩:=X.defers;have hdef:a6.defers=ms.map mk1:=m1'.trans (bH _);show ckRF.wpIn Fence.wide 2 Tryz.prog (Exit.then (Fh.wpIn Fence.wide 2 Tryz.prog (bodyPostM Fence.wide 2 Tryz.prog Tryz.f55 (sQ G y w))) (bodyPostM Fence.wide 2 Tryz.prog Tryz.f55 (sQ G y w))) a6 N;rw[Xj];refine wpIn_block (Wg hseq hg h2 hsz hrb (fun D W hall hbel hDl hDo=>?_) (fun D W z hz j hDl hDo=>?_))
 ·have hck:ckS x=some y:=by
   have:(l1++(l2++(l3++l4))).find? (fun e=>e != 0)=none:=cD.2 fun z hz=>by rw[hall z hz]; simp
   rw[this] at hLy;exact hLy
  have hDn:D∉ms:=fun hm=>by have:=Û (q D hm).1; omega
  exact Xi (s:=s) (ms:=D::ms) hck X.heap hbel (by show VE D::a6.defers=_; rw[hdef]; rfl) (fh.2 ⟨hDn,m2'⟩) (fun k d=>by
   rcases bw.1 d with rfl|d
   ·exact⟨hDo,bB O.size hDl⟩
   ·exact⟨(hbel.block k (Û (q k d).1)).trans (q k d).1,(q k d).2⟩) hsz p1 p2 C O.size O.os O.tape O.output
 ·have hzy:z=y:=by
   rw[hz] at hLy;simpa using hLy
  subst hzy;obtain⟨te5,hcell⟩:=j.cell;have hlb:=Û hrb;have hlive:jc ν (ckH x s 0) rb:=⟨1,rfl,by rw[n1]; rfl⟩
  have hDn:D∉ms:=fun hm=>by have:=Û (q D hm).1; omega
  exact Nw (a:={a6 with defers:=VE D::a6.defers}) (w:=W) (ms:=D::ms) (by show VE D::a6.defers=_; rw[hdef]; rfl) (fh.2 ⟨hDn,m2'⟩) (fun k d=>by
   rcases bw.1 d with rfl|d
   ·exact⟨hDo,bB O.size hDl⟩
   ·exact⟨(j.block k (Û (q k d).1) (fun e=>by have h9:=(q k d).1; rw[e,hrb] at h9; cases h9)).trans (q k d).1,(q k d).2⟩) h2 hcell
   (fun b hb=>(j.block b (by have:=O.size; omega) (fun e=>(C b hb).2 (e▸hlive))).trans (C b hb).1) (by have:=O.size; have:=j.size; omega) (j.os.trans O.os) (j.tape.trans O.tape) (j.output.trans O.output)
def qe:Ý Tryz.prog 55 Ie:=fun G x y d w vals c a b=>Pf G x y d w vals c a b
end Go.Proofs.ZzM
end

noncomputable section
set_option maxRecDepth 100000
namespace Go.Proofs.ZzM
open Go Go.Am Go.RowKit
abbrev cP:Type:=Val (tyL Ű)
abbrev cV:Type:=Val (tyL gW)
abbrev cS (p:cP) (v:cV):St:=à mm Ű gW p v
abbrev cU (p:cP) (v:cV) (x:bl):St:=à Br Ű qA p (tB v x)
def UK (a:th (Int×Bool)) (n:Int):gZ Tryz.prog [.map tI .bool a] 177 (.omp 0) (.int .i64 n) false some=(match (mP (k:=tI) (v:=.bool) n a:so Bool) with|some y=>some (.bool y)|none=>some (.bool false)):=by kernel_rfl
noncomputable def MapAt (W:World) (d:Nat) (c:th (Int×Bool)):Prop:=Globs.Φ W/\∃(a:Array MapEntry) (b:Nat),W.heap[d]?=some (.map a b)/\a.size=c.length/\∀(i:Nat) (e:Int×Bool),c[i]?=some e->∃m,a[i]?=some m/\m.key=.int .i64 e.1/\m.val=.bool e.2
noncomputable def yo (a:th (Int×Bool)) (n:Int):Bool:=((mP (k:=tI) (v:=.bool) n a:so Bool)).getD false
def Uq {W:World} {f:Nat} {d:th (Int×Bool)} (h:MapAt W f d) (n:Int):(Instr.lookup 177 (.map (some f)) (.int .i64 n) false).run Tryz.prog W=.ok (.bool (yo d n)) W:=by
 letI:È:=Gh fun _=>False
 obtain⟨p,a,g,y,h2,G⟩:=h
 have H:HR (fun _=>.map (some f)) [.map tI .bool d] W:=by
  refine⟨fun id=>?_,fun i j b hi D _ _=>?_,fun b hb=>hb.elim,fun id b _ _ hb=>hb.elim,p,fun b hb ⟨id,z,B⟩=>?_⟩
  ·rcases id with _|id
   ·refine⟨f,a,g,rfl,y,h2,fun i e E=>?_⟩;obtain⟨m,t,s,A⟩:=G i e E;exact⟨m,[.bool e.2],t,by rw[s]; rfl,rfl,by rw[A]; rfl⟩
   ·rw[oi _ _ (by simp)]; trivial
  ·have one:∀i,(lkB [Blk.map tI .bool d] i).live=true->i=0:=fun i hi=>by
    rcases i with _|i
    ·rfl
    ·rw[oi _ _ (by simp)] at hi; cases hi
   rw[one i hi,one j D]
  ·obtain⟨c,e,r,q⟩:=Globs.cel W p b hb;rcases id with _|id
   ·have J:f=b:=by rcases B with⟨o,r,e⟩|e<;>cases e<;>rfl
    rw[J,q] at y; cases y
   ·rw[oi _ _ (by simp)] at z; cases z
 have x:VR (fun _=>.map (some f)) [.map tI .bool d] W (.omp 0) (.map (some f)):=⟨rfl,_,_,_,rfl,rfl⟩
 have C:gZ Tryz.prog [.map tI .bool d] 177 (.omp 0) (.int .i64 n) false some=some (.bool (yo d n)):=by
  rw[UK];unfold yo
  cases(mP (k:=tI) (v:=.bool) n d:so Bool)<;>rfl
 obtain⟨u,t,s⟩:=Jc H C x (ui:=.int .i64 n) rfl;rw[t];have:u=.bool (yo d n):=s;rw[this]
noncomputable def gz (l:th bl) (j:Nat):bl:=l[j]?.getD (0,0,0,(0,0),(0,0),0)
def Lg {w:World} {av:Nat->Prop} {g:bl} {us:th Value} (h:CR w av Ì g us) :
 us=[.int .i64 g.1,.int .i64 g.2.1,.int .i64 g.2.2.1,.int .i64 g.2.2.2.1.1,.int .i64 g.2.2.2.1.2,.int .i64 g.2.2.2.2.1.1,.int .i64 g.2.2.2.2.1.2,.int .i64 g.2.2.2.2.2]:=by
 obtain⟨B,r1,rfl,j,A,r2,rfl,h2,a3,D,rfl,i,E,C,rfl,⟨z,y,rfl,f,e⟩,⟨b3,a,rfl,⟨x,v,rfl,d,c⟩,b⟩⟩:=h;have u:B=[.int .i64 g.1]:=j;have t:A=[.int .i64 g.2.1]:=h2;have s:a3=[.int .i64 g.2.2.1]:=i;have r:z=[.int .i64 g.2.2.2.1.1]:=f;have q:y=[.int .i64 g.2.2.2.1.2]:=e;have p:x=[.int .i64 g.2.2.2.2.1.1]:=d;have o:v=[.int .i64 g.2.2.2.2.1.2]:=c;have k:a=[.int .i64 g.2.2.2.2.2]:=b;subst u t s r q p o k;rfl
noncomputable def KNd (a:World) (R:Nat->Prop) (tb:Nat) (d:th (Int×Bool)) (W:World):Prop:=a.heap.size<=W.heap.size/\(∀b,R b->W.heap[b]?=a.heap[b]?)/\(tb<a.heap.size/\∀b,b<Globs.n->b<a.heap.size)/\∃c,c<a.heap.size/\W.cell? ⟨tb,0,none⟩=some (.map (some c))/\MapAt W c d
def KNd.below {a W W':World} {R:Nat->Prop} {tb:Nat} {f:th (Int×Bool)} (o:∀b,R b->b<a.heap.size) (h:KNd a R tb f W) (j:W.heap.size<=W'.heap.size) (hb:∀b,b<a.heap.size->W'.heap[b]?=W.heap[b]?):KNd a R tb f W':=by
 obtain⟨t,h2,d,e,i,s,c,u,v,r,q,p⟩:=h;exact⟨bB t j,fun b g=>(hb b (o b g)).trans (h2 b g),d,e,i,by rw[World.cell?_of_block (w:=W) (hb tb d.1)]; exact s,Globs.keep W W' c (fun b k=>hb b (d.2 b k)),u,v,(hb e i).trans r,q,p⟩
def KNd.grown {a W W':World} {R:Nat->Prop} {tb:Nat} {c:th (Int×Bool)} (e:∀b,R b->b<a.heap.size) (h:KNd a R tb c W) (d:W.grownBy W' none):KNd a R tb c W' :=
 h.below e d.size fun b hb=>d.block b (bu hb h.1) (by simp)
def lk_all {f:AV->Bool} (h0:f .any=true):∀(l:th AV),l.all f=true->∀i,f (lk l i)=true
 |[],_,i=>by cases i<;>exact h0
 |x::l,h,0=>by simp only[cY,bn] at h; exact h.1
 |x::l,h,i+1=>by simp only[cY,bn] at h; exact lk_all h0 l h.2 i
def lkB_all {f:Blk->Bool} (h0:f .dead=true):∀(l:th Blk),l.all f=true->∀i,f (lkB l i)=true
 |[],_,i=>by cases i<;>exact h0
 |x::l,h,0=>by simp only[cY,bn] at h; exact h.1
 |x::l,h,i+1=>by simp only[cY,bn] at h; exact lkB_all h0 l h.2 i
def Va (p:cP) (v:cV):(cS p v).h.all mfB=true:=by kernel_rfl
def cU_mf (p:cP) (v:cV) (x:bl):(cU p v x).h.all mfB=true:=by kernel_rfl
def cU_mft (p:cP) (v:cV) (x:bl):(cU p v x).t.all mfV3=true:=by kernel_rfl
noncomputable def pin0 (m:Nat):AV->Bool
 |.any=>true
 |.box id _=>Nat.blt id m
 |_=>false
noncomputable def pin3 (m:Nat):AV->Bool
 |.fn _ a b=>a.all (pin0 m)&&b.all (pin0 m)
 |a=>pin0 m a
section
variable [È] {ν ν':Nat->Value} {h h':th Blk} {w w':World} {m:Nat}
def VR0.pin (e:Ev m ν h w ν' h' w') {a:AV} {v:Value} (g:pin0 m a=true) (i:VR0 ν h w a v):VR0 ν' h' w' a v:=by
 cases a with
 |any=>trivial
 |box id off =>
  obtain⟨cs,b,j,o,h2⟩:=i;have c:id<m:=ca g;have hb:=e.blk id c;rw[j] at hb;obtain⟨⟨f,d⟩,k⟩:=hb;exact⟨f,b,d,by rw[k]; exact o,h2⟩
 |_=>cases g
def VR.pin (e:Ev m ν h w ν' h' w') {a:AV} {v:Value} (b:pin3 m a=true) (c:VR ν h w a v):VR ν' h' w' a v:=by
 cases a with
 |fn f fa fb =>
  obtain⟨fs,cs,g,h2,d⟩:=c;simp only[pin3,bn,bI] at b;exact⟨fs,cs,g,h2.mem fun a ha _=>VR0.pin e (b.1 a ha),d.mem fun a ha _=>VR0.pin e (b.2 a ha)⟩
 |any=>trivial
 |box id off=>exact VR0.pin (a:=.box id off) e (show pin0 m (.box id off)=true from b) c
 |_=>cases b
end
def VU (p:cP) (v:cV):(cS p v).t.all (pin3 9)=true:=by kernel_rfl
def cS_len (p:cP) (v:cV):(cS p v).h.length=10:=by kernel_rfl
def cU_len (p:cP) (v:cV) (x:bl):(cU p v x).h.length=11:=by kernel_rfl
def cS_t (p:cP) (v:cV) (z:th bl):(cS p (Ā v z)).t=(cS p v).t:=by kernel_rfl
def cS_5 (p:cP) (v:cV):∃a b us lo d c,lkB (cS p v).h 5=.cells [.int .i64 a,.int .i64 b,.slc Ì (ä v),.slc Ë us,.slc Ŧ lo,.slc Ú d,.slc Ë c]:=⟨_,_,_,_,_,_,rfl⟩
def cS_6 (p:cP) (v:cV):lkB (cS p v).h 6=.cells [.omp 7]:=by kernel_rfl
def cS_7 (p:cP) (v:cV):lkB (cS p v).h 7=.map tI .bool (ğ v):=by kernel_rfl
def cS_59 (p:cP) (v:cV):lk (cS p v).t 59=.fn (.func 182) [] [.box 5 0,.box 6 0]:=by kernel_rfl
noncomputable def Lc:Blk->Bool
 |.map _ _ _=>true
 |_=>false
def LH (p:cP) (v:cV):(cS p v).h.map Lc=[false,false,false,false,false,false,false,true,true,false]:=by kernel_rfl
def Xp (p:cP) (v:cV) (x:bl):(cU p v x).h.map Lc=[false,false,false,false,false,false,false,true,true,false,false]:=by kernel_rfl
def EO:∀(l:th Blk) (i:Nat),Lc (lkB l i)=true->(l.map Lc)[i]?=some true
 |[],i,h=>by cases i<;>cases h
 |x::l,0,h=>by have:Lc x=true:=h; simp[this]
 |x::l,i+1,h=>by simpa using EO l i h
def MJ {l:th Blk} {t:th Bool} (c:l.map Lc=[false,false,false,false,false,false,false,true,true]++t) (a:∀b∈t,b=false) {id:Nat} {k u:Ty} {es:th (Val k×Val u)} (h:lkB l id=.map k u es):id=7\/id=8:=by
 have:=EO l id (by rw[h]; rfl);rw[c] at this
 rcases id with _|_|_|_|_|_|_|_|_|id<;>simp at this ⊢
 have:=a _ (bJ this);cases this
noncomputable def VP {ρ:Type}:th bl->so ρ->so ρ
 |[],x=>x
 |_::_,_=>none
def Lt {ρ:Type} {l:th bl} {x:so ρ} {r:ρ} (h:VP l x=some r):l=[]/\x=some r:=by
 cases l with
 |nil=>exact⟨rfl,h⟩
 |cons=>cases h
noncomputable def cutK (p:cP) (v:cV):so an:=VP (nn v) (Â (qG (ä v) (ğ v)) fun z=>iz p (Ā v z) some)
def Rn {l:th bl} {a:th (Int×Bool)} {z:th bl} (h:qG l a=some z):Ñ l.length=true/\z=(CX (fun j=>yo a (gz l j).1) l.length).map (gz l):=by
 unfold qG at h;simp only[ð] at h
 split at h
 ·rename_i d;cases h;refine⟨d,?_⟩
  have b:∀(n:Nat),n<=l.length->(l.take n).filter (fun g=>((mP (k:=tI) (v:=.bool) g.1 a:so Bool)).getD false)=(CX (fun j=>yo a (gz l j).1) n).map (gz l):=by
   intro n
   induction n with
   |zero=>intro _; rfl
   |succ n c =>
    intro e
    have f:l[n]?=some (gz l n):=by simp[gz,bo (show n<l.length from e)]
    rw[List.take_succ,eQ,c (by omega),uk,f];have:((mP (k:=tI) (v:=.bool) (gz l n).1 a:so Bool)).getD false=yo a (gz l n).1:=rfl;simp only[Option.toList_some,cE,cO,this]
    split<;>simp
  have:=b l.length (bm _)
  rwa [ff] at this
 ·cases h
def T8 {n m:Nat} (h:Ñ n=true) (a:m<=n):Ñ m=true:=by
 unfold Ñ at h ⊢;simp only[Bool.and_eq_true,decide_eq_true_eq] at h ⊢
 first|omega|(constructor<;>omega)
def VR_gre {G:Nat->Prop} {D D':th Deferred} {Q Q':so Nat} {M M':Nat} {ν:Nat->Value} {h:th Blk} {w:World} {a:AV} {v:Value} (b:@VR _ ((Gh G).re G D Q M) ν h w a v):@VR _ ((Gh G).re G D' Q' M') ν h w a v:=b
def CU {G:Nat->Prop} {D D':th Deferred} {Q Q':so Nat} {M M':Nat} {ν:Nat->Value} {h:th Blk} {w:World} (H:@HR _ ((Gh G).re G D Q M) ν h w):@HR _ ((Gh G).re G D' Q' M') ν h w:=HR.re (g:=(Gh G).re G D Q M) H
def qy [È] {c ν':Nat->Value} {i h':th Blk} {f W:World} (C:HR c i f) (ev:Ev 9 c i f ν' h' W) (g:∀id,id=7\/id=8->∃k u es,lkB i id=.map k u es)
 {t:th Bool} (p:h'.map Lc=[false,false,false,false,false,false,false,true,true]++t) (j:∀b∈t,b=false) (a:∀id,mfB (lkB h' id)=true):Tn f.heap.size ν' h':=by
 refine⟨fun id k u es b o d=>?_,fun id t xs e=>(by have:=a id; rw[e] at this; cases this),fun id es e=>(by have:=a id; rw[e] at this; cases this),fun id s q e=>(by have:=a id; rw[e] at this; cases this)⟩
 have A:id<9:=by rcases MJ p j o with rfl|rfl<;>omega
 obtain⟨k1,u1,B,v⟩:=g id (MJ p j o);have hb:=ev.blk id A;rw[v] at hb;obtain⟨_,z⟩:=hb;have r:=C.blk id;rw[v] at r;obtain⟨b0,_,_,y,x,_⟩:=r;rw[z,y] at d;cases d;exact Û x
def Vb (p:cP) (v:cV):∀id,id=7\/id=8->∃k u es,lkB (cS p v).h id=.map k u es:=by
 rintro id (rfl|rfl)
 ·exact⟨_,_,_,rfl⟩
 ·exact⟨_,_,_,rfl⟩
noncomputable def CI (G:Nat->Prop) (p:cP) (v:cV) (b:Nat->Value) (c:World) (a:th Nat) (W:World):Prop :=
 ∃ν',@HR _ (gck G 0) ν' (cS p (Ā v (a.map (gz (ä v))))).h W/\Ev 9 b (cS p v).h c ν' (cS p (Ā v (a.map (gz (ä v))))).h W
def CI.own {G:Nat->Prop} {p:cP} {v:cV} {a:Nat->Value} {c:World} (q:@HR _ (gck G 0) a (cS p v).h c):OwnFrom c.heap.size (CI G p v a c):=by
 intro j W W' row hI i f
 letI:È:=gck G 0
 obtain⟨ν',H,ev⟩:=hI;have g:=qy q ev (Vb p v) (LH _ _) (t:=[false]) (by simp) (lkB_all rfl _ (Va _ _));refine⟨ν',H.ckeep (CA i f) (fun id k u es b o d=>?_) (lkB_all rfl _ (Va _ _)),ev.own i fun r e=>(f r e).1⟩;have hb:=g.lt id k u es b o d
 exact i.block b (bu hb ev.size) fun e=>by have:=(f b e.symm).1; omega
def CI.nd {G:Nat->Prop} {p:cP} {v:cV} {a:Nat->Value} {g W:World} {d:th Nat} {R:Nat->Prop} {tb:Nat} (q:@HR _ (gck G 0) a (cS p v).h g) (z:∀b,R b->b<g.heap.size/\¬jc a (cS p v).h b) (j:a 6=.pointer (some ⟨tb,0,none⟩)) (hI:CI G p v a g d W):KNd g R tb (ğ v) W:=by
 letI:È:=gck G 0
 obtain⟨ν',H,ev⟩:=hI;have B:=q.blk 6;rw[cS_6] at B;obtain⟨b6,_,_,t,T,_⟩:=B;rw[j] at t;cases t;have A:=q.blk 7;rw[cS_7] at A;obtain⟨U,_,_,r1,r2,_⟩:=A;have D:=ev.blk 6 (by omega);rw[cS_6] at D;have C:=ev.blk 7 (by omega);rw[cS_7] at C;have k6:=H.blk 6;rw[show lkB (cS p (Ā v (d.map (gz (ä v))))).h 6=.cells [.omp 7] from cS_6 _ _] at k6;obtain⟨b,c,e,s,r,S⟩:=k6;rw[D.2,j] at s;cases s;obtain⟨y,Q,O⟩:=S.one;obtain⟨_,k,u,es,_,N⟩:=O.1;have k7:=H.blk 7;rw[show lkB (cS p (Ā v (d.map (gz (ä v))))).h 7=.map tI .bool (ğ v) from cS_7 _ _] at k7;obtain⟨f,Z,cl,t1,t2,M,L⟩:=k7;have e1:y=.map (some f):=N.trans t1
 have e2:f=U:=by rw[C.2,r1] at t1; cases t1; rfl
 subst e2;refine⟨ev.size,fun b hb=>(ev.keep b (z b hb).1 (z b hb).2).1,⟨Û T,fun b hb=>by obtain⟨o,Y,_⟩:=Globs.dat g q.glob b hb; exact Û Y⟩,f,Û r2,?_,H.glob,Z,cl,t2,M,fun i x V=>?_⟩
 ·have X:c=#[y]:=by rw[<-bL,Q]
  rw[X,e1] at r;simp[World.cell?,r]
 ·obtain⟨m,us,u1,K,J,E⟩:=L i x V;have v1:[m.key]=[.int .i64 x.1]:=K;have v2:us=[.bool x.2]:=J;refine⟨m,u1,by simpa using v1,?_⟩;rw[E,v2];rfl
def O8:drawn (Am.rfA (Am.rfC 7 ā))=false:=by kernel_rfl
def O7:drawn (Am.rfB (Am.rfC 7 ā))=false:=by kernel_rfl
def O6:Õ 4 (Am.rfA (Am.rfC 7 ā))=[]:=by kernel_rfl
def O5:Õ 4 (Am.rfB (Am.rfC 7 ā))=[]:=by kernel_rfl
def Nv (ρ:Type):NN (Ĉ ρ) 10:=ij (fun {_} _=>DJ Bq (Ĉ ρ) rfl rfl rfl rfl rfl (Œ rfl) (nO rfl) (ō rfl)) (fun L call a=>Α hmix L call a) (zm hmix (tab:=lm ρ) rfl xV rfl) 10 (bm _)
def GO [È] (ρ:Type):Ÿ (Ĉ ρ) 2 (Ō (Ĉ ρ) 10):=Nv ρ (ō rfl)
def Sb {G:Nat->Prop} {M:Nat} {p:cP} {v:cV} {j:Nat->Value} {a:Act} {s:World} (H1:@Sim _ (gck G M) j (cS p v) a s) (l:Nat) (d:th Nat) (x:Nat) (W:World) (hl:s.heap.size<=l) (hlo:∃r,W.heap[l]?=some (.loop r)) (hI:CI G p v j s d W) (hok:Ñ (d.length+1)=true) {u:Value} (hu:∀[È] (ν:Nat->Value) (h:th Blk) (w:World),VR ν h w (.agg (flat Ì (gz (ä v) x))) u) :
 (Am.rfA (Am.rfC 7 ā)).wpIn (Fence.wide.inRound l) 0 Tryz.prog (Exit.then (fun X g=>KeepsFrom s.heap.size W g/\∀y,(∃r,g.heap[l]?=some (.loop r)) ->
  (Am.rfB (Am.rfC 7 ā)).wpIn (Fence.wide.inRound l) 0 Tryz.prog (Exit.then (fun _ Z=>KeepsFrom s.heap.size (g.putObj l (.loop y)) Z/\CI G p v j s (d++[x]) Z) (fun _ _ _=>False)) X (g.putObj l (.loop y))) (fun _ _ _=>False)) {tmps:=a.tmps.setIfInBounds 60 u,defers:=[]} W:=by
 letI:È:=(Gh G).re G [] (some l) 0
 have Y:HR j (cS p v).h s:=CU (@Sim.heap _ (gck G M) _ _ _ _ H1);obtain⟨ν',H0,ev⟩:=hI;have H:HR ν' (cS p (Ā v (d.map (gz (ä v))))).h W:=CU H0;obtain⟨f,o⟩:∃f,f=Ā v (d.map (gz (ä v))):=⟨_,rfl⟩;rw[<-o] at H ev
 have ht:(cS p f).t=(cS p v).t:=by rw[o]; exact cS_t _ _ _
 have hml:=qy Y ev (Vb p v) (LH _ _) (t:=[false]) (by simp) (lkB_all rfl _ (Va _ _))
 have L:Sim ν' (cS p f) {tmps:=a.tmps,defers:=[]} W:=by
  refine⟨⟨⟨[],rfl,cM,fun _ h=>(by cases h)⟩,fun l' D=>(by cases D; exact hlo),bO _,bO _⟩,?_,fun i=>?_,H⟩
  ·rw[ht]; show _<=a.tmps.size; exact @Sim.len _ (gck G M) _ _ _ _ H1
  ·rw[ht]; exact VR.pin ev (lk_all rfl _ (VU p v) i) (VR_gre (@Sim.tmps _ (gck G M) _ _ _ _ H1 i))
 have N:=L.put (Ev.refl _ _ _ _) H (some 60) (hu ν' _ W);have U:=GO (cP×Val (tyL qA));have hgo:=hO U (path:=[]) rfl (Am.rfA (Am.rfC 7 ā)) 4 _ _ ν' _ W (fun h=>by rw[O8] at h; cases h) (fun z O=>by rw[O6] at O; cases O) (OC p f (gz (ä v) x) fun p u=>some (p,u)) N (bB (show 9<=10 by decide) (dk (cS_len p f).symm));refine wpIn_mono hgo fun e X g ha=>?_;obtain⟨νa,Sa,sA,evA,lenA,ddA,kA⟩:=ha;obtain⟨rfl,p',u',C,E⟩:=uN kA;cases E;obtain⟨νb,sB,evB,lB,dB⟩:=gd _ _ _ _ _ _ _ νa X g C sA;have B:Ev 9 ν' (cS p f).h W νb (cU p f (gz (ä v) x)).h g:=evA.trans evB (bm _);have V:=ev.trans B (bm _);have S:=qy Y V (Vb p v) (Xp _ _ _) (t:=[false,false]) (by simp) (lkB_all rfl _ (cU_mf _ _ _));refine⟨yc H hml B,fun y ⟨r,hr⟩=>?_⟩;have hlt:l<g.heap.size:=Û hr
 have K:Ŗ g (g.putObj l (.loop y)):=⟨by simp[World.putObj],fun b c e q hb=>by
  rw[World.putObj_heap_other (fun e'=>by subst e'; rw[hr] at hb; cases hb)]; exact hb⟩
 have hfr:Fr (g.putObj l (.loop y)) X.defers:=by
  obtain⟨⟨ms,m1,m2,m3⟩,_,m5,m6⟩:=sB.defers;exact⟨⟨ms,m1,m2,fun k hk=>⟨(World.putObj_heap_other (fun e'=>by have:=(m3 k hk).1; rw[e',hr] at this; cases this)).trans (m3 k hk).1,(m3 k hk).2⟩⟩,fun l' D=>(by cases D; exact⟨y,by simp[World.putObj,hlt]⟩),m5,by simpa[World.putObj] using m6⟩
 have sC:Sim νb (cU p f (gz (ä v) x)) X (g.putObj l (.loop y)):=sB.ckeep K hfr (fun id k q es b hb hν=>World.putObj_heap_other (by have:=S.lt id k q es b hb hν; omega)) (lkB_all rfl _ (cU_mf _ _ _)) (lk_all rfl _ (cU_mft _ _ _))
 have evO:Ev 9 j (cS p v).h s νb (cU p f (gz (ä v) x)).h (g.putObj l (.loop y)):=V.own (grownBy_putObj' g l _) fun q e=>by cases e; exact hl
 have J:=GO (cP×cV);have law:=OB p f (gz (ä v) x) fun p v=>some (p,v)
 have Q:nn f=d.map (gz (ä v)):=by rw[o]; rfl
 rw[Q] at law;simp only[cd,bz,bD,bK,hok,ð] at law;have T:=hO J (path:=[]) rfl (Am.rfB (Am.rfC 7 ā)) 4 _ _ νb _ _ (fun h=>by rw[O7] at h; cases h) (fun z O=>by rw[O5] at O; cases O) law sC (bB (show 9<=11 by decide) (dk (cU_len p f (gz (ä v) x)).symm));refine wpIn_mono T fun e a3 Z hb=>?_;obtain⟨νc,Sc,sD,evC,lenC,ddC,kC⟩:=hb;obtain⟨rfl,p',u',C,E⟩:=uN kC;cases E;obtain⟨νd,sE,evD,lD,dD⟩:=gd _ _ _ _ _ _ _ νc a3 Z C sD;have A:=evC.trans evD (bm _);refine⟨yc sC.heap S A,νd,?_⟩
 have R:Ā f (d.map (gz (ä v))++[gz (ä v) x])=Ā v ((d++[x]).map (gz (ä v))):=by
  rw[o,dZ]; rfl
 rw[<-R];exact⟨CU sE.heap,evO.trans A (bm _)⟩
noncomputable def L1 (G:Nat->Prop) (y:an) (w:World) (e:Ending) (w':World):Prop :=
 ∃u,e=.returned u/\RR w' G [Ã] y u/\(∀b,b<w.heap.size->w'.heap[b]?=w.heap[b]?)/\w.heap.size<=w'.heap.size/\w'.os=w.os/\w'.tape=w.tape/\w'.output=w.output
noncomputable def GP (u:Val (tyL fS)):an:=((u.1,u.2.1),u.2.2.1,u.2.2.2.1,u.2.2.2.2.1,u.2.2.2.2.2.1,u.2.2.2.2.2.2)
def UN (p:cP) (v:cV):iz p v (fun y=>(fun u=>some (GP u)) (gX y))=iz p v some:=by kernel_rfl
def R0 (u:Val (tyL fS)):gX (GP u)=u:=by kernel_rfl
def UJ {G:Nat->Prop} {p:cP} {v:cV} {y:an} {ν:Nat->Value} {a:Act} {w0 W:World} {D:Nat} (H:@Sim _ (gck G w0.heap.size) ν (cS p v) a W) (hB:iz p v some=some y) (hD:W.heap[D]?=some (.deferred (some []))) (hnl:¬jc ν (cS p v).h D)
 (S:Ev 0 (fun _=>undef) [] w0 ν (cS p v).h W) (V:w0.heap.size<=D) (U:∀ms:th Nat,a.defers=ms.map mk1->D∉ms) :
 (Am.postC 7 ā).wpIn Fence.wide 2 Tryz.prog (bodyPostM Fence.wide 2 Tryz.prog Tryz.f51 (L1 G y w0)) {a with defers:=VE D::a.defers} W:=by
 letI:È:=gck G w0.heap.size
 have K:Sim ν (cS p v) {a with defers:=VE D::a.defers} W:=by
  obtain⟨⟨ms,m1,m2,m3⟩,m4,m5,m6⟩:=H.defers;refine⟨⟨⟨D::ms,by show VE D::a.defers=_; rw[m1]; rfl,fh.2 ⟨?_,m2⟩,fun k q=>?_⟩,m4,m5,m6⟩,H.len,H.tmps,H.heap⟩
  ·exact U ms (m1.trans (bH _))
  ·rcases bw.1 q with rfl|q
   ·exact⟨hD,V⟩
   ·exact m3 k q
 have d:=GO an;have r:∀L call,Ÿ (Ĉ an) L call->gM (Ĉ an) L call:=Α hmix;have law:=IW p v fun u=>some (GP u);rw[UN,hB] at law
 have hL:∀z∈Õ 0 (Am.postC 7 ā),Χ (Ĉ an) [] 51 z.1 z.2:=fun z hz =>
  zm (E:=Ĉ an) hmix (tab:=lm _) rfl xV rfl 10 (bm _) (Nv _) (ō rfl) [] 51 Tryz.f51 _ rfl Tryz.func51 ln z (M4 7 ā 0 vp hz)
 have t:=ψ d (r _ _ d) rfl (Am.postC 7 ā) 0 _ _ ν _ W hL law K (bO _);rw[qO rfl] at t;refine wpIn_wide.2 (wpIn_wide.1 (wpIn_mono t fun e A W' ha=>?_));obtain⟨C,Sa,sA,Y,_,_,kA⟩:=ha;obtain⟨rfl,u,s,q⟩:=QN kA;cases q;obtain⟨νb,f,x,_,_⟩:=gd _ _ _ _ _ _ _ C A W' s sA
 have hu:à mn [] fS () u=à mn [] fS () (gX (GP u)):=by rw[R0]
 rw[hu] at f x;have X:=(Y.trans x (bm _));obtain⟨⟨j,n1,n2,O⟩,_,n5,n6⟩:=f.defers;show LeavesInM _ _ _ _ _ _ A.defers _ _;rw[show A.defers=j.map mk1 from n1.trans (bH _)];refine fU j W' n2 (fun k q=>(O k q).1) fun J N q2 q3 q4 q5=>?_
 have R:∀(b:Nat) (o:Obj),W'.heap[b]?=some o->xP o=true\/b<(gck G w0.heap.size).B->J.heap[b]?=some o:=fun b o hb hd=>by
  have T:b∉j:=fun s=>by
   rw[(O b s).1] at hb; cases hb;rcases hd with hd|hd
   ·cases hd
   ·exact absurd hd (Nat.not_lt_zero _)
  rw[q5 b T]; exact hb
 have KG:ŭ (gck G w0.heap.size) νb (à mn [] fS () (gX (GP u))).h W' (gck G w0.heap.size).G J:=ŭ.nds q2 q3 q4 (by omega) R
 have sC:Sim νb (à mn [] fS () (gX (GP u))) {A with defers:=[]} J:=⟨⟨⟨[],rfl,cM,fun _ h=>(by cases h)⟩,fun l hl=>(by cases hl),bO _,by rw[N]; exact n6⟩,f.len,fun i=>VR.step (g:=gck G w0.heap.size) (D:=[]) (Q:=none) (M:=w0.heap.size) KG (f.tmps i),
  HR.step (g:=gck G w0.heap.size) (D:=[]) (Q:=none) (M:=w0.heap.size) KG (fun b hb=>by rw[N]; exact f.heap.ghlt b hb) (fun b hb hg=>by obtain⟨id,h1,h2⟩:=hb; exact f.heap.ghne id b h1 h2 hg) f.heap⟩
 obtain⟨Z,r1,r2⟩:=wE sC (K6 (GP u));have c:=S.trans X (bm _);exact⟨Z,r1,Z,rfl,FD sC.heap [Ã] r2 (show N7 [Ã] _ (enc Ã (GP u))=some (GP u) from rfl),fun b hb=>(q5 b fun s=>by have m7:w0.heap.size<=b:=(O b s).2; omega).trans (c.keep b hb fun⟨_,h,_⟩=>by cases h).1,by rw[N]; exact c.size,q2.trans c.os,q3.trans c.tape,q4.trans c.output⟩
def UO (x:Val (.pair Ã (.pair (.slice Ë) (.slice Ë)))):vq x.1 x.2.1 x.2.2 cutK=mV.F x:=by kernel_rfl
noncomputable def encG (g:bl):Value:=.agg #[.int .i64 g.1,.int .i64 g.2.1,.int .i64 g.2.2.1,.int .i64 g.2.2.2.1.1,.int .i64 g.2.2.2.1.2,.int .i64 g.2.2.2.2.1.1,.int .i64 g.2.2.2.2.1.2,.int .i64 g.2.2.2.2.2]
noncomputable def Xb [È] (g:bl) (ν:Nat->Value) (h:th Blk) (w:World):VR ν h w (.agg (flat Ì g)) (encG g) :=
 ⟨_,rfl,⟨rfl,rfl⟩,⟨rfl,rfl⟩,⟨rfl,rfl⟩,⟨rfl,rfl⟩,⟨rfl,rfl⟩,⟨rfl,rfl⟩,⟨rfl,rfl⟩,⟨rfl,rfl⟩,trivial⟩
def UM (G:Nat->Prop) (x:Val (tyL mV.ts)) (y:an) (hF:mV.F x=some y) (w:World) (vals:th Value) (hG:∀b,G b->b<w.heap.size) (hΦ:Globs.Φ w) (hAL:AL w G mV.ts x vals) :
 (∃fn c,Tryz.prog.funcs[51]?=some fn/\fn.body=some c)/\CallsIn Fence.wide 0 Tryz.prog 51 vals.toArray w (L1 G y w):=by
 letI:È:=gck G w.heap.size
 have hdraw:∀L call,Ÿ (ī an) L call->gM (ī an) L call:=Α hmix;have N:xx (ī an):=zm hmix (tab:=tz _) rfl K8 rfl;have hall:NN (ī an) 10:=ij (fun {_} _=>DJ Bq _ rfl rfl rfl rfl rfl (Œ rfl) (nO rfl) (ō rfl)) (fun L call hE=>Α hmix L call hE) N 10 (bm _);have hEnv:Ÿ (ī an) 2 (Ō (ī an) 10):=hall (ō rfl);have H:HR (fun _=>undef) [] w:=⟨fun _=>trivial,fun _ _ _ h=>(by cases h),hG,fun _ _ h=>(by cases h),hΦ,fun _ _ ⟨_,h,_⟩=>(by cases h)⟩;have hav:∀b,Av (fun _=>undef) [] b->G b:=fun b hb=>hb.elim (fun⟨_,h,_⟩=>by cases h) id;have M:ê (VR (fun _=>undef) [] w) (zx mV.ts x) vals:=AL.VR (hAL.mono hav);refine⟨⟨Tryz.f51,_,Tryz.func51,ln⟩,?_⟩;have hlen:vals.length=3:=M.length.symm;refine callsIn_wide.2 (callsIn_wide.1 (callsIn_of_wp_marks (n:=2) Tryz.func51 ln trivial ?_ (R:=L1 G y w)))
 have hS:Sim (fun _=>undef) {t:=zx mV.ts x++List.replicate 127 .any,h:=[]} {tmps:=vals.toArray++Array.replicate (Tryz.f51.ntmps-vals.toArray.size) undef,defers:=[]} w:=by
  refine⟨⟨⟨[],rfl,cM,fun _ h=>(by cases h)⟩,fun l T=>(by cases T),bO _,bm _⟩,?_,fun i=>?_,H⟩
  ·have:Tryz.f51.ntmps=130:=by kernel_rfl
   have hl2:(zx mV.ts x).length=3:=rfl;simp[this,hlen,hl2]
  ·simp only[BW];rcases bZ i (zx mV.ts x).length with hi|hi
   ·have:=ê.lk (R:=VR (fun _=>undef) [] w) (fun _=>trivial) i M
    have hv:i<vals.length:=by rw[<-M.length]; exact hi
    have h2:(vals.toArray++Array.replicate (Tryz.f51.ntmps-vals.toArray.size) undef).getD i undef=vals.getD i undef:=by
     simp[bM,cI,hv]
    rw[h2]; exact this
   ·rw[Rb _ _ hi]; trivial
 have law:=(K7 x cutK).trans ((UO x).trans hF);refine peelN rfl hEnv (hdraw _ _ hEnv) rfl (path:=[]) rfl (fun e S hne h=>hne (uN h).1) 7 ā _ _ _ _ vp (fun z hz=>N 10 (bm _) hall (ō rfl) [] 51 Tryz.f51 ā rfl Tryz.func51 ln z hz) law hS (fun ν1 S1 a1 E s1 e1 k1=>?_);obtain⟨_,p,v,hm,hk⟩:=uN k1;obtain⟨hrow,hk⟩:=Lt hk
 cases hz:qG (ä v) (ğ v) with
 |none=>rw[hz] at hk; cases hk
 |some z =>
 rw[hz] at hk;have hB:iz p (Ā v z) some=some y:=hk;obtain⟨hzl,hzs⟩:=Rn hz;obtain⟨C,s2,e2,_,_⟩:=gd _ _ _ _ _ _ _ ν1 a1 E hm s1;have evw:=e1.trans e2 (bm _)
 have hv0:Ā v []=v:=by rw[<-hrow]; rfl
 have d:Sim C (cS p v) a1 E:=s2
 -- the blocks
 obtain⟨fa,fb,us,lo,co,ko,h5⟩:=cS_5 p v;have hB5:=d.heap.blk 5;rw[h5] at hB5;obtain⟨bb,cb,te,n5,hbb,hc5⟩:=hB5;have hB6:=d.heap.blk 6;rw[cS_6] at hB6;obtain⟨tb,ct,tt,n6,htb,hc6⟩:=hB6;have hl5:=hc5.length
 obtain⟨u1,u2,u3,u4,u5,u6,u7,hcb⟩:∃u1 u2 u3 u4 u5 u6 u7,cb.toList=[u1,u2,u3,u4,u5,u6,u7]:=by
  rcases hcs:cb.toList with _|⟨u1,_|⟨u2,_|⟨u3,_|⟨u4,_|⟨u5,_|⟨u6,_|⟨u7,_|⟨u8,t⟩⟩⟩⟩⟩⟩⟩⟩<;>rw[hcs] at hl5<;>simp at hl5
  exact⟨u1,u2,u3,u4,u5,u6,u7,rfl⟩
 rw[hcb] at hc5;obtain⟨_,_,hc3,_⟩:=hc5;have hg3:CR E (Av C (cS p v).h) (.slice Ì) (ä v) [u3]:=hc3.1;obtain⟨base,cap,Y,hcap,hgl⟩:=hg3
 have Y:u3=.slice base (ä v).length cap:=by simpa using Y
 obtain⟨O,go,X⟩:∃O go,0<(ä v).length->base=some ⟨O,go,none⟩/\¬Av C (cS p v).h O/\O<E.heap.size/\∀(i:Nat) (g:bl),(ä v)[i]?=some g->∃us,CR E (Av C (cS p v).h) Ì g us/\Ċ E O (go+i*8) us:=by
  rcases hgl with hgl|⟨O,go,q1,q2,q3,q4⟩
  ·exact⟨0,0,fun h=>by rw[show(ä v)=[] from hgl] at h; simp at h⟩
  ·exact⟨O,go,fun _=>⟨q1,q2,q3,q4⟩⟩
 obtain⟨gl,K⟩:∃gl,gl=ä v:=⟨_,rfl⟩;rw[<-K] at X Y
 have hR:∀b,(0<gl.length/\b=O)->b<E.heap.size/\¬jc C (cS p v).h b:=fun b ⟨h,e⟩=>by subst e; obtain⟨_,q2,q3,_⟩:=X h; exact⟨q3,fun T=>q2 (.inl T)⟩
 have hnd:∀s W,CI G p v C E s W->KNd E (fun b=>0<gl.length/\b=O) tb (ğ v) W:=fun s W hI=>hI.nd (CU d.heap) hR n6
 have hI0:CI G p v C E [] E:=by
  refine⟨C,?_,?_⟩
  ·rw[show Ā v (([]:th Nat).map (gz (ä v)))=v from hv0]; exact CU d.heap
  ·rw[show Ā v (([]:th Nat).map (gz (ä v)))=v from hv0]; exact Ev.refl _ _ _ _
 have Z:=d.tmps 59;rw[cS_59] at Z
 have V:a1.tmps.getD 59 undef=.func (.func 182) #[] #[.pointer (some ⟨bb,0,none⟩),.pointer (some ⟨tb,0,none⟩)]:=by
  obtain⟨fs,cs,h1,h2,h3⟩:=Z
  have e1:fs=#[]:=by rw[<-bL]; exact h2.nil_left
  have T:=h3.length
  obtain⟨v1,v2,e2⟩:∃v1 v2,cs.toList=[v1,v2]:=by
   rcases hcs:cs.toList with _|⟨v1,_|⟨v2,_|⟨v3,t⟩⟩⟩<;>rw[hcs] at T<;>simp at T
   exact⟨v1,v2,rfl⟩
  rw[e2] at h3;have e3:v1=.pointer (some ⟨bb,0,none⟩):=qf (w:=E) (id:=5) (off:=0) h3.1 n5;have e4:v2=.pointer (some ⟨tb,0,none⟩):=qf (w:=E) (id:=6) (off:=0) h3.2.1 n6;rw[h1,e1];congr 1;rw[<-bL,e2,e3,e4]
 have hcbe:cb=#[u1,u2,.slice base gl.length cap,u4,u5,u6,u7]:=by rw[<-bL,hcb,Y]
 have hseq:SeqStopsK Fence.wide 1 Tryz.prog 182 #[.pointer (some ⟨bb,0,none⟩),.pointer (some ⟨tb,0,none⟩)] (fun j:Nat=>#[encG (gz gl j)]) (fun A B=>KNd E (fun b=>0<gl.length/\b=O) tb (ğ v) A->KNd E (fun b=>0<gl.length/\b=O) tb (ğ v) B)
  (fun xs=>xs=CX (fun j=>yo (ğ v) (gz gl j).1) gl.length) (fun _=>True) (CX (fun j=>yo (ğ v) (gz gl j).1) gl.length).length E:=by
  intro l J Jx W U hJ hJx hY h0
  refine WQ te 1 (by omega) l bb tb u1 u2 u4 u5 u6 u7 O go gl.length cap base (fun h=>(X h).1) (fun j=>(gz gl j).1) (fun j=>(gz gl j).2.1) (fun j=>(gz gl j).2.2.1) (fun j=>(gz gl j).2.2.2.1.1) (fun j=>(gz gl j).2.2.2.1.2) (fun j=>(gz gl j).2.2.2.2.1.1) (fun j=>(gz gl j).2.2.2.2.1.2) (fun j=>(gz gl j).2.2.2.2.2)
   (fun j=>yo (ğ v) (gz gl j).1) ?len (KNd E (fun b=>0<gl.length/\b=O) tb (ğ v)) W ((U.block bb (Û hbb)).trans (by rw[hbb,hcbe])) ?cells ?maps (fun W1 W2 h V=>h.grown (fun b hb=>(hR b hb).1) V) ((hnd [] E hI0).below (fun b hb=>(hR b hb).1) U.size U.block)
   J Jx (fun s W1 W2 hj V=>hJ s W1 W2 none hj V (fun r e=>by cases e)) (fun s W1 W2 hj V=>hJx s W1 W2 none hj V (fun r e=>by cases e)) (fun s j W1 hj T=>hY s j W1 hj T) h0
  case len =>
   have:=hzl;rw[<-K] at this;simp only[Ñ,decide_eq_true_eq] at this;omega
  case cells =>
   intro W' hW j hj;obtain⟨q1,q2,q3,q4⟩:=X (by omega);obtain⟨vs,r1,r2⟩:=q4 j (gz gl j) (by simp[gz,bo hj]);have r2:=r2.keep (w':=W') (hW.2.1 O ⟨by omega,rfl⟩);rw[Lg r1] at r2;refine⟨?_,?_,?_,?_,?_,?_,?_,?_⟩
   ·simpa using r2 0 _ rfl
   ·simpa[cX] using r2 1 _ rfl
   ·simpa[cX] using r2 2 _ rfl
   ·simpa[cX] using r2 3 _ rfl
   ·simpa[cX] using r2 4 _ rfl
   ·simpa[cX] using r2 5 _ rfl
   ·simpa[cX] using r2 6 _ rfl
   ·simpa[cX] using r2 7 _ rfl
  case maps =>
   intro W' hW;obtain⟨_,_,h3,mb,h4,h5,h6⟩:=id hW;refine⟨.map (some mb),fun W'' V=>?_⟩;obtain⟨k1,_,k3,mb',k4,k5,k6⟩:=hW.grown (fun b hb=>(hR b hb).1) V
   have:mb'=mb:=by
    have e:=World.cell?_of_block (a:=⟨tb,0,none⟩) (V.block tb (bu h3.1 hW.1) (by simp));rw[e,h5] at k5;cases k5; rfl
   subst this;exact⟨k5,fun j _=>Uq k6 _⟩
 rw[OA];refine wpIn_block (CZ (n:=2) rfl (by omega) V trivial (fun args w=>?eg) hseq (fun h k=>fun q=>k (h q)) (fun W l o o' T ho _ _ hW=>?kb) (Below.refl _ _) (fun _=>rfl) (CI G p v C E) (CI.own (CU d.heap)) hI0 (fun l s j W T hlo hI hlt=>?round) (fun D xs W hD hxs hI hDo=>?done))
 case eg=>simp[callFunc,Sem.run_bind,run_program,Result.andThen_ok,Tryz.func182,plain 182 _ Tryz.func182,show Tryz.f182.body.isNone=false from rfl]; rfl
 case kb=>exact hW.below (fun b hb=>(hR b hb).1) (by simp[World.putObj]) fun b hb=>World.putObj_heap_other (by omega)
 case round =>
  have hf:∀u:Value,((#[60]:Array Tmp).zip #[u]).foldl (fun t (p,v)=>t.setIfInBounds p v) a1.tmps=a1.tmps.setIfInBounds 60 u:=fun u=>by simp
  show Code.wpIn (Fence.wide.inRound l) 0 Tryz.prog _ _ ⟨((#[60]:Array Tmp).zip #[encG (gz gl j)]).foldl (fun t (p,v)=>t.setIfInBounds p v) a1.tmps,[]⟩ W;rw[hf];refine wpIn_mono (Sb d l s j W T hlo hI ?_ (u:=encG (gz gl j)) (by rw[K]; exact fun ν h w=>Xb _ ν h w)) fun e a' Wa ha=>?_
  ·refine T8 hzl ?_;have:=Kz (fun j=>yo (ğ v) (gz gl j).1) gl.length;rw[<-K];omega
  ·cases e with
   |normal =>
    refine⟨ha.1,fun r' hr=>wpIn_mono (ha.2 r' hr) fun e a3 W3 hb=>?_⟩
    cases e with
    |normal=>exact⟨hb.1,fun _=>hnd _ _ hb.2,hb.2⟩
    |_=>exact hb
   |_=>exact ha
 case done =>
  subst hxs;obtain⟨ν',Hd0,Q⟩:=hI;have Hd:=CU (D':=[]) (Q':=none) (M':=w.heap.size) Hd0
  have hzz:(CX (fun j=>yo (ğ v) (gz gl j).1) gl.length).map (gz (ä v))=z:=by rw[hzs,K]
  rw[hzz] at Hd Q;have hml:=qy d.heap Q (Vb p v) (LH _ _) (t:=[false]) (by simp) (lkB_all rfl _ (Va _ _));have ht:(cS p (Ā v z)).t=(cS p v).t:=cS_t _ _ _
  have simD:Sim ν' (cS p (Ā v z)) a1 W:=by
   refine⟨d.defers.keep Q.size (d.heap.nd Q),?_,fun i=>?_,Hd⟩
   ·rw[ht]; exact d.len
   ·rw[ht]; exact VR.pin Q (lk_all rfl _ (VU p v) i) (d.tmps i)
  exact UJ simD hB hDo (EP Hd hml hD hDo rfl) (evw.trans (Q.mono (bO _)) (bm _)) (bB evw.size hD) (fun ms hm hk=>by
   obtain⟨⟨ms2,m1,_,m3⟩,_⟩:=d.defers;rw[show a1.defers=ms2.map mk1 from m1.trans (bH _)] at hm
   have hinj:ms2=ms:=List.map_inj_right (f:=mk1) (fun x y e=>by cases e; rfl) |>.1 hm
   subst hinj
   have:=Û (m3 D hk).1; omega)
def Xn:Ý Tryz.prog 51 mV:=fun G x y d w vals c a b=>UM G x y d w vals c a b
end Go.Proofs.ZzM
end

noncomputable section
set_option maxRecDepth 100000
namespace Go.Proofs.ZzM
open Go Go.Am
def Pj:ZP 16 D4:=zt (Iu _) Ä rfl Ä fun x=>by kernel_rfl
def UX:ZP 5 Mr:=zt (Ep _) (Á Pj Ä) rfl (Á C1 Ä) fun x=>by kernel_rfl
def U6:ZP 77 MB:=zt (EJ _) (Á l6 Ä) rfl (Á Dx Ä) fun x=>by kernel_rfl
def JV:ZP 24 Ak:=zt (fL _) (Á qe (Á U6 (Á DL Ä))) rfl (Á BI (Á BH (Á BG (Á BF (Á BD Ä))))) fun x=>Gj x some
def U4:ZP 25 Mz:=zt (EH _) (Á l6 Ä) rfl (Á Dr Ä) fun x=>by kernel_rfl
def JU:ZP 7 Ah:=zt (Bs _) (Á JV (Á U4 (Á l6 Ä))) rfl Ä fun x=>Ga x some
def lT:ZP 27 iv:=zt (C5 _) Ä rfl Ä fun x=>by kernel_rfl
def CF:ZP 81 wJ:=zt (QS _) Ä rfl Ä fun x=>by kernel_rfl
def zD:ZP 33 uG:=zt (Ou _) (Á CF Ä) rfl Ä fun x=>by kernel_rfl
def Ny:ZP 149 FI:=zt (EF _) Ä rfl (Á Dp Ä) fun x=>by kernel_rfl
def Nz:ZP 150 FJ:=zt (Oz _) Ä rfl Ä fun x=>by kernel_rfl
def Pu:ZP 80 Ee:=zt (IR _) (Á Ny (Á Nz Ä)) rfl Ä fun x=>by kernel_rfl
def Po:ZP 28 D9:=zt (IA _) (Á lT (Á zD (Á Pu (Á CF Ä)))) rfl Ä fun x=>by kernel_rfl
def wm:ZP 83 oS:=zt (Bg _) Ä rfl (Á Bf Ä) fun x=>by kernel_rfl
def rm:ZP 34 md:=zt (IE _) (Á wm Ä) rfl Ä fun x=>by kernel_rfl
def Ss:ZP 29 HT:=zt (AD _) (Á zD (Á rm Ä)) rfl (Á AC Ä) fun x=>by kernel_rfl
def Pm:ZP 30 D7:=zt (kK _) (Á lT (Á rm (Á CF Ä))) rfl (Á yw (Á yv (Á yx Ä))) fun x=>by kernel_rfl
def Sz:ZP 82 HZ:=zt (A2 _) (Á CF Ä) rfl (Á A1 Ä) fun x=>by kernel_rfl
def Pl:ZP 31 D6:=zt (Iw _) (Á lT (Á zD (Á CF (Á Sz Ä)))) rfl Ä fun x=>by kernel_rfl
def JR:ZP 84 Ad:=zt (A9 _) Ä rfl (Á A8 Ä) fun x=>by kernel_rfl
def UZ:ZP 151 Mu:=zt (EB _) Ä rfl (Á Dl Ä) fun x=>by kernel_rfl
def JS:ZP 85 Ae:=zt (Bb _) (Á UZ Ä) rfl (Á Ba Ä) fun x=>by kernel_rfl
def GZ:ZP 32 uE:=zt (Ż _) (Á rm (Á wm (Á JR (Á JS Ä)))) rfl (Á tg (Á tf (Á td Ä))) fun x=>wM x some
def GY:ZP 89 zj:=zt (Ot _) (Á JS Ä) rfl Ä fun x=>by kernel_rfl
def Sv:ZP 86 HV:=zt (tj _) (Á GY Ä) rfl (Á AK (Á AJ Ä)) fun x=>by kernel_rfl
def xp:ZP 35 qu:=zt (ż _) (Á Sv Ä) rfl (Á yI (Á yH (Á yG (Á yD (Á yE (Á yF Ä)))))) fun x=>by kernel_rfl
def Sw:ZP 152 HW:=zt (AO _) Ä rfl (Á AM Ä) fun x=>by kernel_rfl
def SB:ZP 87 H4:=zt (A7 _) (Á wm (Á JR (Á Sw Ä))) rfl (Á A6 Ä) fun x=>by kernel_rfl
def Pq:ZP 88 Eb:=zt (xU _) (Á xp Ä) rfl (Á yJ Ä) fun x=>by kernel_rfl
def CG:ZP 295 sX:=zt (F1 _) (Á Ny (Á Nz Ä)) rfl Ä fun x=>by kernel_rfl
def U3:ZP 265 My:=zt (Oy _) (Á CG Ä) rfl Ä fun x=>by kernel_rfl
def U1:ZP 266 Mw:=zt (Ow _) Ä rfl Ä fun x=>by kernel_rfl
def U0:ZP 217 Mv:=zt (Ov _) (Á U3 (Á U1 Ä)) rfl Ä fun x=>by kernel_rfl
def Pn:ZP 218 D8:=zt (Iz _) (Á wm Ä) rfl Ä fun x=>by kernel_rfl
def SF:ZP 267 H6:=zt (K4 _) Ä rfl Ä fun x=>by kernel_rfl
def U2:ZP 268 Mx:=zt (Ox _) (Á CG Ä) rfl Ä fun x=>by kernel_rfl
def Pv:ZP 219 Ef:=zt (IT _) (Á SF (Á U2 Ä)) rfl Ä fun x=>by kernel_rfl
def LB:ZP 153 Af:=zt (F0 _) (Á GY (Á U0 (Á Pn (Á Pv Ä)))) rfl Ä fun x=>by kernel_rfl
def Pr:ZP 154 Ec:=zt (IM _) Ä rfl Ä fun x=>by kernel_rfl
def SE:ZP 220 H5:=zt (K3 _) Ä rfl Ä fun x=>by kernel_rfl
def Pw:ZP 155 Eg:=zt (IU _) (Á SE Ä) rfl Ä fun x=>by kernel_rfl
def Xm:ZP 221 Qp:=zt (QU _) Ä rfl Ä fun x=>by kernel_rfl
def SG:ZP 156 H7:=zt (K5 _) (Á Xm Ä) rfl Ä fun x=>by kernel_rfl
def Sx:ZP 90 HX:=zt (KZ _) (Á LB (Á Pr (Á Pw (Á SG Ä)))) rfl Ä fun x=>by kernel_rfl
def UY:ZP 36 Ms:=zt (qz _) (Á xp (Á SB (Á Pq (Á GY (Á Sx Ä))))) rfl (Á Db (Á Dc (Á Da Ä))) fun x=>by kernel_rfl
def Ps:ZP 8 Ed:=zt (fR _) (Á lT (Á Po (Á Ss (Á Pm (Á Pl (Á GZ (Á zD (Á rm (Á xp (Á UY Ä)))))))))) rfl (Á yO (Á yM (Á yN (Á yL Ä)))) fun x=>Dn x some
noncomputable def xq {a:Int->so ByteArray} (b:Ý Tryz.prog 157 ⟨[tI],[.str],fun(x:Int)=>a x⟩):Ý Tryz.prog 157 ⟨[tI],[.str],fun(x:Int)=>Ř a x some⟩:=qt (p:=⟨[tI],[.str],fun(x:Int)=>Ř a x some⟩) (ł a _) (fun {_}=>libN (Á b Ä) _) hmix (tab:=od a _) rfl (Á vh Ä) (gR fun x=>yK x some)
def oq:∀n:Nat,Ý Tryz.prog 157 ⟨[tI],[.str],fun(x:Int)=>iu n x⟩
 |0=>by intro _ _ _ h; cases h
 |n+1=>xq (oq n)
def JT:Ý Tryz.prog 157 xM:=oq 100
def Su:ZP 91 HU:=zt (AI _) (Á JT Ä) rfl (Á AH Ä) fun x=>by kernel_rfl
def Pp:ZP 37 Ea:=zt (fQ _) (Á Su Ä) rfl (Á yC (Á yB (Á yA (Á yz (Á yy Ä))))) fun x=>by kernel_rfl
noncomputable def y5 {a:Int->so ByteArray} (b:Ý Tryz.prog 92 ⟨[tI],[.str],fun(x:Int)=>a x⟩):Ý Tryz.prog 92 ⟨[tI],[.str],fun(x:Int)=>gU a x some⟩:=qt (p:=⟨[tI],[.str],fun(x:Int)=>gU a x some⟩) (uS a _) (fun {_}=>libN (Á b Ä) _) hmix (tab:=oW a _) rfl Ä (gR fun x=>AA x some)
def qd:∀n:Nat,Ý Tryz.prog 92 ⟨[tI],[.str],fun(x:Int)=>gQ n x⟩
 |0=>by intro _ _ _ h; cases h
 |n+1=>y5 (qd n)
def LA:Ý Tryz.prog 92 Ac:=qd 100
def Lz:ZP 38 Ab:=zt (FV _) (Á LA Ä) rfl Ä fun x=>by kernel_rfl
def Pk:ZP 9 D5:=zt (oZ _) (Á Pp (Á Lz Ä)) rfl (Á yu Ä) fun x=>C3 x some
def gK:ZP 93 ň:=zt (fZ _) Ä rfl Ä fun x=>by kernel_rfl
def tT:ZP 39 j9:=zt (oV _) (Á gK Ä) rfl Ä fun x=>by kernel_rfl
def CH:Ý Tryz.prog 160 sY:=qt (jv _) (fun {_}=>DJ Ä (jv _) rfl rfl rfl rfl rfl (Œ rfl) (Ll (Á sO Ä) rfl) (ō rfl)) hmix rfl (Á wR Ä) (gR fun x=>Bz x some)
def SJ:ZP 166 Ia:=zt (Bx _) (Á CH Ä) rfl (Á Bw Ä) fun x=>by kernel_rfl
def BO {ρ:Type} (a:Hk Tryz.prog 168 sJ):lX.Ok (š ρ):=⟨yU,a,BM,BJ,by decide,BK,fun p v y kn b=>(yW p v y kn b).trans (yV p v y kn b)⟩
def SL:Ý Tryz.prog 40 Ic:=Qm (š _) (fun {_}=>DJ (Á JV (Á CE (Á ja (Á CH (Á SJ Ä))))) (š _) rfl rfl rfl rfl rfl (Œ rfl) (nO rfl) (ō rfl)) hmix rfl Ä (rtab:=yb) rfl (Á (BO Ur) Ä) (Á BN Ä) (gR fun x=>Gm x some)
def LC:Ý Tryz.prog 43 Ag:=qt (ju _) (fun {_}=>DJ Ä (ju _) rfl rfl rfl rfl rfl (Œ rfl) (Ll (Á sO Ä) rfl) (ō rfl)) hmix rfl (Á wO Ä) (gR fun x=>Bn x some)
def SH:Ý Tryz.prog 10 H8:=qt (np _) (fun {_}=>DJ (Á JU (Á tT (Á SL (Á ja (Á LC Ä))))) (np _) rfl rfl rfl rfl rfl (Œ rfl) (Ll (Á y0 Ä) rfl) (ō rfl)) hmix rfl (Á Bu Ä) (gR fun x=>Gb x some)
def G0:ZP 176 uF:=zt (pd _) Ä rfl (Á tp Ä) fun x=>by kernel_rfl
def y6:ZP 99 nZ:=zt (vf _) (Á G0 Ä) rfl Ä fun x=>by kernel_rfl
def DM:ZP 100 rM:=zt (ob _) Ä rfl (Á ru Ä) fun x=>by kernel_rfl
def Sy:ZP 44 HY:=zt (kj _) (Á y6 (Á DM Ä)) rfl (Á AU (Á AR (Á AQ (Á AP Ä)))) fun x=>by kernel_rfl
def G3:ZP 45 uH:=zt (pH _) Ä rfl (Á tv Ä) fun x=>by kernel_rfl
def GW:ZP 11 uD:=zt (AB _) (Á Sy (Á G3 Ä)) rfl Ä fun x=>by kernel_rfl
end Go.Proofs.ZzM
end
