import Derived.Shelf.LaysM
import Derived.Shelf.Strconv.Itoa3
import Derived.Shelf.Small.Strs
import Derived.Shelf.Strconv.AtoiAll
import Derived.Shelf.Strings.Replace
import Derived.Shelf.Strconv.Clone
import Derived.Test.YtfaccbkibjkfjaaGreatDoorProg
import Derived.Test.YtfaccbkibjkfjaaGreatDoorT07
import Derived.Test.YtfaccbkibjkfjaaGreatDoorT12
import Derived.Test.YtfaccbkibjkfjaaGreatDoorT41
import Derived.Test.YtfaccbkibjkfjaaGreatDoorT13
import Derived.Test.YtfaccbkibjkfjaaGreatDoorT17
import Derived.Test.YtfaccbkibjkfjaaGreatDoorT45
set_option linter.all false
set_option maxRecDepth 100000
set_option maxHeartbeats 1000000
section
namespace Go.Proofs
open Go.Shelf
def Tryz.Ej:Go.Shelf.Ren:=⟨fun|171=>32|243=>81|246=>159|283=>245|284=>246|285=>247|286=>248|129=>297|317=>296|318=>298|319=>299|320=>300|337=>321|338=>322|n=>n,fun|3=>3|9=>9|2=>2|4=>4|171=>320|0=>0|53=>321|37=>82|5=>5|173=>324|212=>375|51=>81|20=>20|213=>376|46=>152|232=>410|233=>411|n=>n,fun|17=>6|18=>9|19=>10|n=>n⟩
theorem Tryz.Lu:Go.Proofs.LaysM.n171 Tryz.prog Tryz.Ej:={
 mixed:=by kernel_rfl
 f129:=Tryz.func297.trans (congrArg some (by kernel_rfl))
 f171:=Tryz.func32.trans (congrArg some (by kernel_rfl))
 f243:=Tryz.func81.trans (congrArg some (by kernel_rfl))
 f246:=Tryz.func159.trans (congrArg some (by kernel_rfl))
 f283:=Tryz.func245.trans (congrArg some (by kernel_rfl))
 f284:=Tryz.func246.trans (congrArg some (by kernel_rfl))
 f285:=Tryz.func247.trans (congrArg some (by kernel_rfl))
 f286:=Tryz.func248.trans (congrArg some (by kernel_rfl))
 f317:=Tryz.func296.trans (congrArg some (by kernel_rfl))
 f318:=Tryz.func298.trans (congrArg some (by kernel_rfl))
 f319:=Tryz.func299.trans (congrArg some (by kernel_rfl))
 f320:=Tryz.func300.trans (congrArg some (by kernel_rfl))
 f337:=Tryz.func321.trans (congrArg some (by kernel_rfl))
 f338:=Tryz.func322.trans (congrArg some (by kernel_rfl))
 t0:=Tryz.underlying0
 a0:=Tryz.isAgg0
 z0:=Tryz.sizeOf0
 v0:=Tryz.zeroValue0
 t2:=Tryz.underlying2
 a2:=Tryz.isAgg2
 z2:=Tryz.sizeOf2
 v2:=Tryz.zeroValue2
 t3:=Tryz.underlying3
 a3:=Tryz.isAgg3
 z3:=Tryz.sizeOf3
 v3:=Tryz.zeroValue3
 t4:=Tryz.underlying4
 a4:=Tryz.isAgg4
 z4:=Tryz.sizeOf4
 v4:=Tryz.zeroValue4
 t5:=Tryz.underlying5
 a5:=Tryz.isAgg5
 z5:=Tryz.sizeOf5
 v5:=Tryz.zeroValue5
 t9:=Tryz.underlying9
 a9:=Tryz.isAgg9
 z9:=Tryz.sizeOf9
 v9:=Tryz.zeroValue9
 t20:=Tryz.underlying20
 a20:=Tryz.isAgg20
 z20:=Tryz.sizeOf20
 v20:=Tryz.zeroValue20
 t37:=Tryz.underlying82
 a37:=Tryz.isAgg82
 z37:=Tryz.sizeOf82
 v37:=Tryz.zeroValue82
 t46:=Tryz.underlying152
 a46:=Tryz.isAgg152
 z46:=Tryz.sizeOf152
 v46:=Tryz.zeroValue152
 t51:=Tryz.underlying81
 a51:=Tryz.isAgg81
 z51:=Tryz.sizeOf81
 v51:=Tryz.zeroValue81
 t53:=Tryz.underlying321
 a53:=Tryz.isAgg321
 z53:=Tryz.sizeOf321
 v53:=Tryz.zeroValue321
 t171:=Tryz.underlying320
 a171:=Tryz.isAgg320
 z171:=Tryz.sizeOf320
 v171:=Tryz.zeroValue320
 t173:=Tryz.underlying324
 a173:=Tryz.isAgg324
 z173:=Tryz.sizeOf324
 v173:=Tryz.zeroValue324
 t212:=Tryz.underlying375
 a212:=Tryz.isAgg375
 z212:=Tryz.sizeOf375
 v212:=Tryz.zeroValue375
 t213:=Tryz.underlying376
 a213:=Tryz.isAgg376
 z213:=Tryz.sizeOf376
 t232:=Tryz.underlying410
 a232:=Tryz.isAgg410
 z232:=Tryz.sizeOf410
 v232:=Tryz.zeroValue410
 t233:=Tryz.underlying411
 a233:=Tryz.isAgg411
 z233:=Tryz.sizeOf411
 v233:=Tryz.zeroValue411
 g17:=by kernel_rfl
 g18:=by kernel_rfl
 g19:=by kernel_rfl
 i0:=by kernel_rfl
 i2:=by kernel_rfl
 i3:=by kernel_rfl
 i4:=by kernel_rfl
 i5:=by kernel_rfl
 i9:=by kernel_rfl
 i20:=by kernel_rfl
 i37:=by kernel_rfl
 i46:=by kernel_rfl
 i51:=by kernel_rfl
 i53:=by kernel_rfl
 i171:=by kernel_rfl
 i173:=by kernel_rfl
 i212:=by kernel_rfl
 i232:=by kernel_rfl
 i233:=by kernel_rfl
 m17:=by kernel_rfl
 m18:=by kernel_rfl
 m19:=by kernel_rfl}
def Tryz.aaq:Go.Shelf.Ren:=⟨fun|137=>259|217=>279|266=>314|n=>n,fun|9=>9|5=>5|3=>3|n=>n,fun|n=>n⟩
theorem Tryz.Px:Go.Proofs.Lays.n137 Tryz.prog Tryz.aaq:={
 mixed:=by kernel_rfl
 f137:=Tryz.func259.trans (congrArg some (by kernel_rfl))
 f217:=Tryz.func279.trans (congrArg some (by kernel_rfl))
 f266:=Tryz.func314.trans (congrArg some (by kernel_rfl))
 t3:=Tryz.underlying3
 a3:=Tryz.isAgg3
 z3:=Tryz.sizeOf3
 v3:=Tryz.zeroValue3
 t5:=Tryz.underlying5
 a5:=Tryz.isAgg5
 z5:=Tryz.sizeOf5
 v5:=Tryz.zeroValue5
 t9:=Tryz.underlying9
 a9:=Tryz.isAgg9
 z9:=Tryz.sizeOf9
 v9:=Tryz.zeroValue9}
def Tryz.Qv:Go.Shelf.Ren:=⟨fun|172=>88|244=>173|245=>174|247=>263|279=>264|280=>265|281=>266|282=>267|287=>303|316=>277|171=>32|205=>304|321=>324|322=>325|243=>81|246=>159|283=>245|284=>246|285=>247|286=>248|129=>297|317=>296|318=>298|319=>299|320=>300|337=>321|338=>322|n=>n,fun|9=>9|3=>3|75=>143|76=>144|4=>4|5=>5|167=>338|37=>82|0=>0|85=>339|2=>2|168=>341|53=>321|175=>382|46=>152|210=>385|127=>244|145=>405|143=>403|21=>21|171=>320|173=>324|212=>375|51=>81|20=>20|213=>376|232=>410|233=>411|80=>146|n=>n,fun|15=>7|16=>8|17=>6|18=>9|19=>10|n=>n⟩
theorem Tryz.L1:Go.Proofs.LaysC.n172 Tryz.prog Tryz.Qv:={
 mixed:=by kernel_rfl
 f129:=Tryz.func297.trans (congrArg some (by kernel_rfl))
 f171:=Tryz.func32.trans (congrArg some (by kernel_rfl))
 f172:=Tryz.func88.trans (congrArg some (by kernel_rfl))
 f205:=Tryz.func304.trans (congrArg some (by kernel_rfl))
 f243:=Tryz.func81.trans (congrArg some (by kernel_rfl))
 f244:=Tryz.func173.trans (congrArg some (by kernel_rfl))
 f245:=Tryz.func174.trans (congrArg some (by kernel_rfl))
 f246:=Tryz.func159.trans (congrArg some (by kernel_rfl))
 f247:=Tryz.func263.trans (congrArg some (by kernel_rfl))
 f279:=Tryz.func264.trans (congrArg some (by kernel_rfl))
 f280:=Tryz.func265.trans (congrArg some (by kernel_rfl))
 f281:=Tryz.func266.trans (congrArg some (by kernel_rfl))
 f282:=Tryz.func267.trans (congrArg some (by kernel_rfl))
 f283:=Tryz.func245.trans (congrArg some (by kernel_rfl))
 f284:=Tryz.func246.trans (congrArg some (by kernel_rfl))
 f285:=Tryz.func247.trans (congrArg some (by kernel_rfl))
 f286:=Tryz.func248.trans (congrArg some (by kernel_rfl))
 f287:=Tryz.func303.trans (congrArg some (by kernel_rfl))
 f316:=Tryz.func277.trans (congrArg some (by kernel_rfl))
 f317:=Tryz.func296.trans (congrArg some (by kernel_rfl))
 f318:=Tryz.func298.trans (congrArg some (by kernel_rfl))
 f319:=Tryz.func299.trans (congrArg some (by kernel_rfl))
 f320:=Tryz.func300.trans (congrArg some (by kernel_rfl))
 f321:=Tryz.func324.trans (congrArg some (by kernel_rfl))
 f322:=Tryz.func325.trans (congrArg some (by kernel_rfl))
 f337:=Tryz.func321.trans (congrArg some (by kernel_rfl))
 f338:=Tryz.func322.trans (congrArg some (by kernel_rfl))
 t0:=Tryz.underlying0
 a0:=Tryz.isAgg0
 z0:=Tryz.sizeOf0
 v0:=Tryz.zeroValue0
 t2:=Tryz.underlying2
 a2:=Tryz.isAgg2
 z2:=Tryz.sizeOf2
 v2:=Tryz.zeroValue2
 t3:=Tryz.underlying3
 a3:=Tryz.isAgg3
 z3:=Tryz.sizeOf3
 v3:=Tryz.zeroValue3
 t4:=Tryz.underlying4
 a4:=Tryz.isAgg4
 z4:=Tryz.sizeOf4
 v4:=Tryz.zeroValue4
 t5:=Tryz.underlying5
 a5:=Tryz.isAgg5
 z5:=Tryz.sizeOf5
 v5:=Tryz.zeroValue5
 t9:=Tryz.underlying9
 a9:=Tryz.isAgg9
 z9:=Tryz.sizeOf9
 v9:=Tryz.zeroValue9
 t20:=Tryz.underlying20
 a20:=Tryz.isAgg20
 z20:=Tryz.sizeOf20
 v20:=Tryz.zeroValue20
 t21:=Tryz.underlying21
 a21:=Tryz.isAgg21
 z21:=Tryz.sizeOf21
 v21:=Tryz.zeroValue21
 t37:=Tryz.underlying82
 a37:=Tryz.isAgg82
 z37:=Tryz.sizeOf82
 v37:=Tryz.zeroValue82
 t46:=Tryz.underlying152
 a46:=Tryz.isAgg152
 z46:=Tryz.sizeOf152
 v46:=Tryz.zeroValue152
 t51:=Tryz.underlying81
 a51:=Tryz.isAgg81
 z51:=Tryz.sizeOf81
 v51:=Tryz.zeroValue81
 t53:=Tryz.underlying321
 a53:=Tryz.isAgg321
 z53:=Tryz.sizeOf321
 v53:=Tryz.zeroValue321
 t75:=Tryz.underlying143
 a75:=Tryz.isAgg143
 z75:=Tryz.sizeOf143
 v75:=Tryz.zeroValue143
 t76:=Tryz.underlying144
 a76:=Tryz.isAgg144
 z76:=Tryz.sizeOf144
 v76:=Tryz.zeroValue144
 t85:=Tryz.underlying339
 a85:=Tryz.isAgg339
 z85:=Tryz.sizeOf339
 v85:=Tryz.zeroValue339
 t127:=Tryz.underlying244
 a127:=Tryz.isAgg244
 z127:=Tryz.sizeOf244
 v127:=Tryz.zeroValue244
 t143:=Tryz.underlying403
 a143:=Tryz.isAgg403
 z143:=Tryz.sizeOf403
 v143:=Tryz.zeroValue403
 t145:=Tryz.underlying405
 a145:=Tryz.isAgg405
 z145:=Tryz.sizeOf405
 v145:=Tryz.zeroValue405
 t167:=Tryz.underlying338
 a167:=Tryz.isAgg338
 z167:=Tryz.sizeOf338
 v167:=Tryz.zeroValue338
 t168:=Tryz.underlying341
 a168:=Tryz.isAgg341
 z168:=Tryz.sizeOf341
 v168:=Tryz.zeroValue341
 t171:=Tryz.underlying320
 a171:=Tryz.isAgg320
 z171:=Tryz.sizeOf320
 v171:=Tryz.zeroValue320
 t173:=Tryz.underlying324
 a173:=Tryz.isAgg324
 z173:=Tryz.sizeOf324
 v173:=Tryz.zeroValue324
 t175:=Tryz.underlying382
 a175:=Tryz.isAgg382
 z175:=Tryz.sizeOf382
 v175:=Tryz.zeroValue382
 t210:=Tryz.underlying385
 a210:=Tryz.isAgg385
 z210:=Tryz.sizeOf385
 v210:=Tryz.zeroValue385
 t212:=Tryz.underlying375
 a212:=Tryz.isAgg375
 z212:=Tryz.sizeOf375
 v212:=Tryz.zeroValue375
 t213:=Tryz.underlying376
 a213:=Tryz.isAgg376
 z213:=Tryz.sizeOf376
 t232:=Tryz.underlying410
 a232:=Tryz.isAgg410
 z232:=Tryz.sizeOf410
 v232:=Tryz.zeroValue410
 t233:=Tryz.underlying411
 a233:=Tryz.isAgg411
 z233:=Tryz.sizeOf411
 v233:=Tryz.zeroValue411
 g15:=by kernel_rfl
 g16:=by kernel_rfl
 g17:=by kernel_rfl
 g18:=by kernel_rfl
 g19:=by kernel_rfl
 t80:=Tryz.underlying146
 a80:=Tryz.isAgg146
 z80:=Tryz.sizeOf146
 v80:=Tryz.zeroValue146
 i0:=by kernel_rfl
 i2:=by kernel_rfl
 i3:=by kernel_rfl
 i4:=by kernel_rfl
 i5:=by kernel_rfl
 i9:=by kernel_rfl
 i20:=by kernel_rfl
 i21:=by kernel_rfl
 i37:=by kernel_rfl
 i46:=by kernel_rfl
 i51:=by kernel_rfl
 i53:=by kernel_rfl
 i75:=by kernel_rfl
 i76:=by kernel_rfl
 i80:=by kernel_rfl
 i85:=by kernel_rfl
 i127:=by kernel_rfl
 i143:=by kernel_rfl
 i145:=by kernel_rfl
 i167:=by kernel_rfl
 i168:=by kernel_rfl
 i171:=by kernel_rfl
 i173:=by kernel_rfl
 i175:=by kernel_rfl
 i210:=by kernel_rfl
 i212:=by kernel_rfl
 i232:=by kernel_rfl
 i233:=by kernel_rfl
 m15:=by kernel_rfl
 m16:=by kernel_rfl
 m17:=by kernel_rfl
 m18:=by kernel_rfl
 m19:=by kernel_rfl
 c0:=by kernel_rfl
 c2:=by kernel_rfl
 c3:=by kernel_rfl
 c4:=by kernel_rfl
 c5:=by kernel_rfl
 c9:=by kernel_rfl
 c20:=by kernel_rfl
 c21:=by kernel_rfl
 c37:=by kernel_rfl
 c46:=by kernel_rfl
 c51:=by kernel_rfl
 c53:=by kernel_rfl
 c75:=by kernel_rfl
 c76:=by kernel_rfl
 c80:=by kernel_rfl
 c85:=by kernel_rfl
 c127:=by kernel_rfl
 c143:=by kernel_rfl
 c145:=by kernel_rfl
 c167:=by kernel_rfl
 c168:=by kernel_rfl
 c171:=by kernel_rfl
 c173:=by kernel_rfl
 c175:=by kernel_rfl
 c210:=by kernel_rfl
 c212:=by kernel_rfl
 c213:=by kernel_rfl
 c232:=by kernel_rfl
 c233:=by kernel_rfl}
def Tryz.aao:Go.Shelf.Ren:=⟨fun|316=>277|n=>n,fun|9=>9|3=>3|4=>4|37=>82|0=>0|127=>244|5=>5|n=>n,fun|n=>n⟩
theorem Tryz.L2:Go.Proofs.LaysM.n316 Tryz.prog Tryz.aao:={
 mixed:=by kernel_rfl
 f316:=Tryz.func277.trans (congrArg some (by kernel_rfl))
 t0:=Tryz.underlying0
 a0:=Tryz.isAgg0
 z0:=Tryz.sizeOf0
 v0:=Tryz.zeroValue0
 t3:=Tryz.underlying3
 a3:=Tryz.isAgg3
 z3:=Tryz.sizeOf3
 v3:=Tryz.zeroValue3
 t4:=Tryz.underlying4
 a4:=Tryz.isAgg4
 z4:=Tryz.sizeOf4
 v4:=Tryz.zeroValue4
 t9:=Tryz.underlying9
 a9:=Tryz.isAgg9
 z9:=Tryz.sizeOf9
 v9:=Tryz.zeroValue9
 t37:=Tryz.underlying82
 a37:=Tryz.isAgg82
 z37:=Tryz.sizeOf82
 v37:=Tryz.zeroValue82
 t127:=Tryz.underlying244
 a127:=Tryz.isAgg244
 z127:=Tryz.sizeOf244
 v127:=Tryz.zeroValue244
 t5:=Tryz.underlying5
 a5:=Tryz.isAgg5
 z5:=Tryz.sizeOf5
 v5:=Tryz.zeroValue5
 i0:=by kernel_rfl
 i3:=by kernel_rfl
 i4:=by kernel_rfl
 i5:=by kernel_rfl
 i9:=by kernel_rfl
 i37:=by kernel_rfl
 i127:=by kernel_rfl}
def Tryz.TG:Go.Shelf.Ren:=⟨fun|154=>41|138=>100|165=>78|143=>101|166=>79|197=>102|169=>80|195=>200|218=>201|240=>157|241=>158|219=>202|260=>203|276=>243|277=>244|217=>279|225=>280|224=>281|267=>282|266=>314|314=>315|n=>n,fun|9=>9|3=>3|4=>4|72=>140|0=>0|76=>144|105=>192|21=>21|5=>5|70=>138|20=>20|37=>82|75=>143|127=>244|164=>317|46=>152|119=>354|139=>357|138=>356|146=>393|51=>81|80=>146|n=>n,fun|1=>3|3=>4|4=>5|n=>n⟩
theorem Tryz.tY:Go.Proofs.Lays.n154 Tryz.prog Tryz.TG:={
 mixed:=by kernel_rfl
 f138:=Tryz.func100.trans (congrArg some (by kernel_rfl))
 f143:=Tryz.func101.trans (congrArg some (by kernel_rfl))
 f154:=Tryz.func41.trans (congrArg some (by kernel_rfl))
 f165:=Tryz.func78.trans (congrArg some (by kernel_rfl))
 f166:=Tryz.func79.trans (congrArg some (by kernel_rfl))
 f169:=Tryz.func80.trans (congrArg some (by kernel_rfl))
 f195:=Tryz.func200.trans (congrArg some (by kernel_rfl))
 f197:=Tryz.func102.trans (congrArg some (by kernel_rfl))
 f217:=Tryz.func279.trans (congrArg some (by kernel_rfl))
 f218:=Tryz.func201.trans (congrArg some (by kernel_rfl))
 f219:=Tryz.func202.trans (congrArg some (by kernel_rfl))
 f224:=Tryz.func281.trans (congrArg some (by kernel_rfl))
 f225:=Tryz.func280.trans (congrArg some (by kernel_rfl))
 f240:=Tryz.func157.trans (congrArg some (by kernel_rfl))
 f241:=Tryz.func158.trans (congrArg some (by kernel_rfl))
 f260:=Tryz.func203.trans (congrArg some (by kernel_rfl))
 f266:=Tryz.func314.trans (congrArg some (by kernel_rfl))
 f267:=Tryz.func282.trans (congrArg some (by kernel_rfl))
 f276:=Tryz.func243.trans (congrArg some (by kernel_rfl))
 f277:=Tryz.func244.trans (congrArg some (by kernel_rfl))
 f314:=Tryz.func315.trans (congrArg some (by kernel_rfl))
 t0:=Tryz.underlying0
 a0:=Tryz.isAgg0
 z0:=Tryz.sizeOf0
 v0:=Tryz.zeroValue0
 t3:=Tryz.underlying3
 a3:=Tryz.isAgg3
 z3:=Tryz.sizeOf3
 v3:=Tryz.zeroValue3
 t4:=Tryz.underlying4
 a4:=Tryz.isAgg4
 z4:=Tryz.sizeOf4
 v4:=Tryz.zeroValue4
 t5:=Tryz.underlying5
 a5:=Tryz.isAgg5
 z5:=Tryz.sizeOf5
 v5:=Tryz.zeroValue5
 t9:=Tryz.underlying9
 a9:=Tryz.isAgg9
 z9:=Tryz.sizeOf9
 v9:=Tryz.zeroValue9
 t20:=Tryz.underlying20
 a20:=Tryz.isAgg20
 z20:=Tryz.sizeOf20
 v20:=Tryz.zeroValue20
 t21:=Tryz.underlying21
 a21:=Tryz.isAgg21
 z21:=Tryz.sizeOf21
 v21:=Tryz.zeroValue21
 t37:=Tryz.underlying82
 a37:=Tryz.isAgg82
 z37:=Tryz.sizeOf82
 v37:=Tryz.zeroValue82
 t46:=Tryz.underlying152
 a46:=Tryz.isAgg152
 z46:=Tryz.sizeOf152
 v46:=Tryz.zeroValue152
 t51:=Tryz.underlying81
 a51:=Tryz.isAgg81
 z51:=Tryz.sizeOf81
 v51:=Tryz.zeroValue81
 t70:=Tryz.underlying138
 a70:=Tryz.isAgg138
 z70:=Tryz.sizeOf138
 v70:=Tryz.zeroValue138
 t72:=Tryz.underlying140
 a72:=Tryz.isAgg140
 z72:=Tryz.sizeOf140
 v72:=Tryz.zeroValue140
 t75:=Tryz.underlying143
 a75:=Tryz.isAgg143
 z75:=Tryz.sizeOf143
 v75:=Tryz.zeroValue143
 t76:=Tryz.underlying144
 a76:=Tryz.isAgg144
 z76:=Tryz.sizeOf144
 v76:=Tryz.zeroValue144
 t105:=Tryz.underlying192
 a105:=Tryz.isAgg192
 z105:=Tryz.sizeOf192
 v105:=Tryz.zeroValue192
 t119:=Tryz.underlying354
 a119:=Tryz.isAgg354
 z119:=Tryz.sizeOf354
 t127:=Tryz.underlying244
 a127:=Tryz.isAgg244
 z127:=Tryz.sizeOf244
 v127:=Tryz.zeroValue244
 t138:=Tryz.underlying356
 a138:=Tryz.isAgg356
 z138:=Tryz.sizeOf356
 v138:=Tryz.zeroValue356
 t139:=Tryz.underlying357
 a139:=Tryz.isAgg357
 z139:=Tryz.sizeOf357
 v139:=Tryz.zeroValue357
 t146:=Tryz.underlying393
 a146:=Tryz.isAgg393
 z146:=Tryz.sizeOf393
 v146:=Tryz.zeroValue393
 t164:=Tryz.underlying317
 a164:=Tryz.isAgg317
 z164:=Tryz.sizeOf317
 v164:=Tryz.zeroValue317
 g1:=by kernel_rfl
 g3:=by kernel_rfl
 g4:=by kernel_rfl}
def Tryz.aap:Go.Shelf.Ren:=⟨fun|154=>41|138=>100|165=>78|143=>101|166=>79|197=>102|169=>80|195=>200|218=>201|240=>157|241=>158|219=>202|260=>203|276=>243|277=>244|217=>279|225=>280|224=>281|267=>282|266=>314|314=>315|n=>n,fun|9=>9|3=>3|4=>4|72=>140|0=>0|76=>144|105=>192|21=>21|5=>5|70=>138|20=>20|37=>82|75=>143|127=>244|164=>317|46=>152|119=>354|139=>357|138=>356|146=>393|51=>81|80=>146|n=>n,fun|1=>3|3=>4|4=>5|n=>n⟩
theorem Tryz.LB:Go.Proofs.LaysM.n154 Tryz.prog Tryz.aap:={
 mixed:=by kernel_rfl
 f138:=Tryz.func100.trans (congrArg some (by kernel_rfl))
 f143:=Tryz.func101.trans (congrArg some (by kernel_rfl))
 f154:=Tryz.func41.trans (congrArg some (by kernel_rfl))
 f165:=Tryz.func78.trans (congrArg some (by kernel_rfl))
 f166:=Tryz.func79.trans (congrArg some (by kernel_rfl))
 f169:=Tryz.func80.trans (congrArg some (by kernel_rfl))
 f195:=Tryz.func200.trans (congrArg some (by kernel_rfl))
 f197:=Tryz.func102.trans (congrArg some (by kernel_rfl))
 f217:=Tryz.func279.trans (congrArg some (by kernel_rfl))
 f218:=Tryz.func201.trans (congrArg some (by kernel_rfl))
 f219:=Tryz.func202.trans (congrArg some (by kernel_rfl))
 f224:=Tryz.func281.trans (congrArg some (by kernel_rfl))
 f225:=Tryz.func280.trans (congrArg some (by kernel_rfl))
 f240:=Tryz.func157.trans (congrArg some (by kernel_rfl))
 f241:=Tryz.func158.trans (congrArg some (by kernel_rfl))
 f260:=Tryz.func203.trans (congrArg some (by kernel_rfl))
 f266:=Tryz.func314.trans (congrArg some (by kernel_rfl))
 f267:=Tryz.func282.trans (congrArg some (by kernel_rfl))
 f276:=Tryz.func243.trans (congrArg some (by kernel_rfl))
 f277:=Tryz.func244.trans (congrArg some (by kernel_rfl))
 f314:=Tryz.func315.trans (congrArg some (by kernel_rfl))
 t0:=Tryz.underlying0
 a0:=Tryz.isAgg0
 z0:=Tryz.sizeOf0
 v0:=Tryz.zeroValue0
 t3:=Tryz.underlying3
 a3:=Tryz.isAgg3
 z3:=Tryz.sizeOf3
 v3:=Tryz.zeroValue3
 t4:=Tryz.underlying4
 a4:=Tryz.isAgg4
 z4:=Tryz.sizeOf4
 v4:=Tryz.zeroValue4
 t5:=Tryz.underlying5
 a5:=Tryz.isAgg5
 z5:=Tryz.sizeOf5
 v5:=Tryz.zeroValue5
 t9:=Tryz.underlying9
 a9:=Tryz.isAgg9
 z9:=Tryz.sizeOf9
 v9:=Tryz.zeroValue9
 t20:=Tryz.underlying20
 a20:=Tryz.isAgg20
 z20:=Tryz.sizeOf20
 v20:=Tryz.zeroValue20
 t21:=Tryz.underlying21
 a21:=Tryz.isAgg21
 z21:=Tryz.sizeOf21
 v21:=Tryz.zeroValue21
 t37:=Tryz.underlying82
 a37:=Tryz.isAgg82
 z37:=Tryz.sizeOf82
 v37:=Tryz.zeroValue82
 t46:=Tryz.underlying152
 a46:=Tryz.isAgg152
 z46:=Tryz.sizeOf152
 v46:=Tryz.zeroValue152
 t51:=Tryz.underlying81
 a51:=Tryz.isAgg81
 z51:=Tryz.sizeOf81
 v51:=Tryz.zeroValue81
 t70:=Tryz.underlying138
 a70:=Tryz.isAgg138
 z70:=Tryz.sizeOf138
 v70:=Tryz.zeroValue138
 t72:=Tryz.underlying140
 a72:=Tryz.isAgg140
 z72:=Tryz.sizeOf140
 v72:=Tryz.zeroValue140
 t75:=Tryz.underlying143
 a75:=Tryz.isAgg143
 z75:=Tryz.sizeOf143
 v75:=Tryz.zeroValue143
 t76:=Tryz.underlying144
 a76:=Tryz.isAgg144
 z76:=Tryz.sizeOf144
 v76:=Tryz.zeroValue144
 t105:=Tryz.underlying192
 a105:=Tryz.isAgg192
 z105:=Tryz.sizeOf192
 v105:=Tryz.zeroValue192
 t119:=Tryz.underlying354
 a119:=Tryz.isAgg354
 z119:=Tryz.sizeOf354
 t127:=Tryz.underlying244
 a127:=Tryz.isAgg244
 z127:=Tryz.sizeOf244
 v127:=Tryz.zeroValue244
 t138:=Tryz.underlying356
 a138:=Tryz.isAgg356
 z138:=Tryz.sizeOf356
 v138:=Tryz.zeroValue356
 t139:=Tryz.underlying357
 a139:=Tryz.isAgg357
 z139:=Tryz.sizeOf357
 v139:=Tryz.zeroValue357
 t146:=Tryz.underlying393
 a146:=Tryz.isAgg393
 z146:=Tryz.sizeOf393
 v146:=Tryz.zeroValue393
 t164:=Tryz.underlying317
 a164:=Tryz.isAgg317
 z164:=Tryz.sizeOf317
 v164:=Tryz.zeroValue317
 g1:=by kernel_rfl
 g3:=by kernel_rfl
 g4:=by kernel_rfl
 t80:=Tryz.underlying146
 a80:=Tryz.isAgg146
 z80:=Tryz.sizeOf146
 v80:=Tryz.zeroValue146
 i0:=by kernel_rfl
 i3:=by kernel_rfl
 i4:=by kernel_rfl
 i5:=by kernel_rfl
 i9:=by kernel_rfl
 i20:=by kernel_rfl
 i21:=by kernel_rfl
 i37:=by kernel_rfl
 i46:=by kernel_rfl
 i51:=by kernel_rfl
 i70:=by kernel_rfl
 i72:=by kernel_rfl
 i75:=by kernel_rfl
 i76:=by kernel_rfl
 i80:=by kernel_rfl
 i105:=by kernel_rfl
 i127:=by kernel_rfl
 i138:=by kernel_rfl
 i139:=by kernel_rfl
 i146:=by kernel_rfl
 i164:=by kernel_rfl
 m1:=by kernel_rfl
 s1_3:=fun w h=>Go.Proofs.cell_of_shapedOpen_int (zero:=#[.int .i64 0]) (t:=3) h (of_decide_eq_true (by kernel_rfl)) (by kernel_rfl) rfl (by kernel_rfl) (by kernel_rfl) Tryz.underlying3
 m3:=by kernel_rfl
 m4:=by kernel_rfl}
end Go.Proofs
end
section
open Go Go.Proofs
namespace Go.Proofs
open Go.Shelf Go.RowKit
theorem Tryz.strconv_Itoa (n:Int) (h0: -9223372036854775808≤n) (h1:n≤9223372036854775807) (w:World) (Wm:Lib.TabIs Tryz.prog w "internal/strconv.uint64pow10" .u64 Lib.pow10Tab):
  Calls Tryz.prog 32 #[.int .i64 n] w fun e w'=>e=.returned (.string ⟨(Lib.itoa n).toArray⟩)∧∃k os,w'=Go.Sort.grow (w.drewN k) os:=Any.strconv_Itoa Tryz.Lu n h0 h1 w Wm
theorem Tryz.strings_IndexByte (s:ByteArray) (c:Int) (w:World):
  Calls Tryz.prog 259 #[.string s,.int .u8 c] w fun e w'=>e=.returned (.int .i64 (Lib.indexByte s.data.toList c.toNat.toUInt8))∧w'=w:=Any.strings_IndexByte Tryz.Px s c w
end Go.Proofs
namespace Go.bW
variable {mx:Int}
open Go.Am
theorem abC (v:Value) (w:World):(callFunc 32 #[v]).run Tryz.prog w=.ok (.enter 32 #[v]) w:=by kernel_rfl
theorem Wn (u v:Value) (w:World):(callFunc 259 #[u,v]).run Tryz.prog w=.ok (.enter 259 #[u,v]) w:=by kernel_rfl
theorem FB (n:Nat):Lib.decDigits n=digits n:=by
 induction n using Nat.strongRecOn with
 |_ n ih=>
 by_cases h:n<10
 ·rw[Lib.decDigits,dif_pos h,digits,dif_pos h]
 ·rw[Lib.decDigits,dif_neg h,digits,dif_neg h,ih (n/10) (by omega)]
theorem Aj {S:Nat→Prop} {w:World} {k:IntKind}:∀{l:List Int} {c:Array Value} {off:Nat},b7 S w (l.map (PV.int k)) c off→∀i,(h:i<l.length)→c[off+i]? =some (.int k l[i])
 |[],_,_,_,i,h=>by simp at h
 |x::l,c,off,hr,0,h=>by
  simp only[List.map_cons,b7,aJ]at hr;obtain⟨⟨v,hv,rfl⟩,-⟩:=hr;exact hv
 |x::l,c,off,hr,i+1,h=>by
  simp only[List.map_cons,b7]at hr;have:=Aj hr.2 i (by simpa using h);rw[show off+(i+1)=off+1+i by omega,this];rfl
theorem abD:g6=Lib.pow10Tab.map (PV.int .u64):=by rfl
theorem Py:Tryz.prog.globalNamed "internal/strconv.uint64pow10" =some 6:=by kernel_rfl
theorem kR {n:Nat} {t:List UInt8} (hn:n<2^40) (ht:t=digits n):pC mx 32 [.int .i64 (Int.ofNat n)] (.str t):=by
 intro S w vs hS hG hvs;simp only[a7,aJ]at hvs;obtain⟨v,r,rfl,rfl,rfl⟩:=hvs;unfold fM;rw[show([Value.int .i64 (Int.ofNat n)]:List Value).toArray=#[.int .i64 (Int.ofNat n)] from rfl,abC];simp only
 have Wm:Lib.TabIs Tryz.prog w "internal/strconv.uint64pow10" .u64 Lib.pow10Tab:=by
  unfold Lib.TabIs World.var?
  rw[Py];obtain⟨h1,c,h2,h3,h4⟩:=hG 6 g6 rfl;unfold ag at h2
  have hc:c=(Lib.pow10Tab.map fun z=>Value.int .u64 z).toArray:=by
   rw[abD]at h3 h4;rw[List.length_map]at h4
   apply Array.ext_getElem?
   intro i
   rcases Nat.lt_or_ge i Lib.pow10Tab.length with hi|hi
   ·have:=Aj h3 i hi;rw[Nat.zero_add]at this;rw[this];simp[hi]
   ·rw[Array.getElem?_eq_none (by omega),Array.getElem?_eq_none (by simpa using hi)]
  simp only[Option.bind_some];split at h2
  ·rename_i c' _ _ he;rw[he];simp only[Option.some.injEq]at h2 ⊢;rw[h2,hc]
  ·cases h2
 refine(Tryz.strconv_Itoa (Int.ofNat n) (by simp<;>omega) (by simp<;>omega) w Wm).mono ?_;rintro e w' ⟨rfl,k,os,rfl⟩;refine⟨_,rfl,?_,?_⟩
 ·exact⟨rfl,rfl,rfl,by simp[Go.Sort.grow],fun i hi=>by
   show((w.drewN k).heap++os)[i]? =_;rw[Array.getElem?_append_left (by show i<w.heap.size;omega)]
   rfl⟩
 ·simp only[aJ];rw[ht,←FB];exact congrArg (fun l:List UInt8=>Value.string ⟨l.toArray⟩) (Lib.itoa_nonneg n)
theorem fT {b r:Int} (hr:r=Lib.indexByte [39,43,58,63] b.toNat.toUInt8):pC mx 259 [.str [39,43,58,63],.int .u8 b] (.int .i64 r):=by
 intro S w vs hS hG hvs;simp only[a7,aJ]at hvs;obtain⟨v,l,rfl,rfl,u,m,rfl,rfl,rfl⟩:=hvs;unfold fM;rw[show([Value.string ⟨[39,43,58,63].toArray⟩,Value.int .u8 b]:List Value).toArray=#[.string ⟨[39,43,58,63].toArray⟩,.int .u8 b] from rfl,Wn];simp only;refine(Tryz.strings_IndexByte _ _ w).mono ?_;rintro e w' ⟨rfl,rfl⟩;refine⟨_,rfl,⟨rfl,rfl,rfl,Nat.le_refl _,fun i hi=>rfl⟩,?_⟩;simp only[aJ];rw[hr]
theorem Wo {b r:Int} (hb:0≤b∧b<256) (hr:r=Lib.indexByte [39,43,58,63] b.toNat.toUInt8):0≤r↔b=39∨b=43∨b=58∨b=63:=by
 have key:∀n:Fin 256,(0≤Lib.indexByte [39,43,58,63] (n.val.toUInt8))↔(n.val=39∨n.val=43∨n.val=58∨n.val=63):=by decide+kernel
 have:=key ⟨b.toNat,by omega⟩;simp only at this;rw[hr,this];omega
end Go.bW
end
section
open Go Go.Am Go.Proofs
attribute [local irreducible] Am.bl.holds bA fw bC dv
namespace Go.bW
variable {mx:Int}
open Classical
theorem Pv {x:Int} {r:Bool} (hr:r=decide (x<32∨126<x)):pC mx 256 [.int .i32 x] (.bool r):=by
 refine pZ G5 ?_
 iterate 129 intro _
 intro aB aV aW bp bu ah aD;refine gK ?_
 repeat' (first|refine rQ ?_|(refine vy (fun hc=>?_) (fun hc=>?_)<;>(try simp at hc)<;>(try(exfalso;omega))))
 all_goals(refine aN ?_)
 all_goals first|(refine tr hr ?_;omega)|(refine fa hr ?_;omega)
theorem vF {rows sp:List (List PV)} {es:List aaW} {res:Bool} (cq:rows=es.map hU) (hl:es.length<2^32) (hle:∀e∈es,e.1.length<2^32) (hr:res=decide (cj (es.map (·.1)))):pC mx 167 [.sl rows sp] (.bool res):=by
 have hlen:rows.length=es.length:=by simp[cq]
 refine pZ G6 ?_
 iterate 122 intro _
 intro aO _ ak aI aU aL aP aB aV aW bp bu ah aD;refine gK ?_
 repeat' (first|refine rQ ?_|(refine vy (fun hc=>?_) (fun hc=>?_)<;>(try simp at hc)<;>(try(exfalso;omega))))
 ·refine aN ?_;refine fa hr ?_;rintro⟨h1,-⟩;simp at h1;omega
 ·refine aN ?_;refine fa hr ?_;rintro⟨-,h2,-⟩;simp at h2;omega
 have uD:1≤es.length∧es.length≤30:=by omega
 refine bG [15,16,17] [] (fun v σ_=>σ_.put (some 17) (.pv (.int .i64 (Int.ofNat v)))) (es.length) (fun k=>(∀h:k<es.length,oa es[k].1)) ?_;intro v hv hk;refine dC ?_;refine bl.af (fun hd=>?_) (fun hd=>?_)
 ·have aY:v<es.length:=by rw[←aD,←ah]at hd;simp at hd;omega
  have bad:¬oa es[v].1→¬cj (es.map (·.1)):=fun h h'=>h (by have:=h'.2.2 v (by simpa using aY);simpa using this)
  have q0:=hle _ (List.getElem_mem aY);obtain⟨⟨eS,lp⟩,bh⟩:∃x,es[v]=x:=⟨_,rfl⟩;obtain⟨oq,gm⟩:∃q,q=strs eS:=⟨_,rfl⟩
  have SE:oq.length=eS.length:=by simp[gm,strs]
  have bx:aL (Int.ofNat v) rows 1:=by rw[←aP,cq];exact aR (enc:=hU) aY rfl
  have a6:aI rows (Int.ofNat v)=[.sl oq lp]:=by rw[←aU,cq,aQ (enc:=hU) aY,bh,gm];rfl
  rw[bh]at q0 bad;dsimp only at q0 bad;refine dp ?_;refine ae bx ?_;rw[a6];refine gK ?_;refine bl.af (fun h4=>?_) (fun h4=>?_)
  ·replace h4:=eT h4
   refine dp ?_;refine dm ?_;refine fa hr (bad ?_);rintro⟨h1,-⟩;omega
  ·replace h4:=eT h4
   refine dp ?_;refine bl.af (fun h5=>?_) (fun h5=>?_)
   ·replace h5:=eT h5
    refine dp ?_;refine dm ?_;refine fa hr (bad ?_);rintro⟨-,h2,-⟩;omega
   ·replace h5:=eT h5
    have gE:1≤eS.length∧eS.length≤10:=by omega
    refine dp ?_;obtain⟨i,rfl⟩:∃i,i=v:=⟨v,rfl⟩;refine bG [15,16,17,29,30,31] [] (fun v σ_=>σ_.put (some 31) (.pv (.int .i64 (Int.ofNat v)))) (eS.length) (fun k=>(∀h:k<eS.length,lW eS[k])) ?_;intro v hv hk;refine dC ?_;refine bl.af (fun he=>?_) (fun he=>?_)
    ·have DY:v<eS.length:=by rw[←aD,←ah]at he;simp at he;omega
     have E4:¬lW eS[v]→¬cj (es.map (·.1)):=fun h=>bad (fun h'=>h (h'.2.2 v DY))
     obtain⟨qY,dq⟩:∃x,eS[v]=x:=⟨_,rfl⟩
     have dT:aL (Int.ofNat v) oq 1:=by rw[←aP,gm];exact aR (enc:=eK) DY rfl
     have cL:aI oq (Int.ofNat v)=[.str qY]:=by rw[←aU,gm,strs,aQ (enc:=eK) DY,dq];rfl
     rw[dq]at E4;refine dp ?_;refine ae dT ?_;rw[cL];refine gK ?_;refine bl.af (fun h6=>?_) (fun h6=>?_)
     ·replace h6:=eT h6
      refine dp ?_;refine dS rfl (cO.ml rfl ?_);show eV _ _=_;refine zeT ?_;refine fa hr (E4 ?_);rintro⟨h1,-⟩;omega
     ·replace h6:=eT h6
      refine dp ?_;refine bX (by cbv) (yi (f:=256) (p:=fun x=>decide (x<32∨126<x)) (fun x=>Pv rfl) (fun x hx=>by simp;omega) (by omega) rfl) (fun h=>?_) (fun h=>?_)<;>simp only[decide_eq_true_eq,decide_eq_false_iff_not]at h
      ·refine gK ?_;refine dS rfl (cO.ml rfl ?_);show eV _ _=_;refine zeT ?_;refine fa hr (E4 ?_);rintro⟨-,h1⟩;obtain⟨k,h2,h3⟩:=h;have:=h1 k h2;omega
      ·refine gK ?_;have AJ:lW qY:=⟨by omega,fun n hn=>Classical.byContradiction fun h2=>h ⟨n,hn,by omega⟩⟩;refine ai ⟨DY,fun _=>by rw[dq];exact AJ,?_⟩;rw[wS ak aO (v:=v) (by omega)]
       cbv
    ·have DY:v=eS.length:=by rw[←aD,←ah]at he;simp at he;omega
     refine dp ?_;refine au rfl ?_;refine gK ?_;refine ai ⟨aY,fun _=>by rw[bh];exact⟨by dsimp only;omega,by dsimp only;omega,fun k h=>hk k (by dsimp only at h;omega) h⟩,?_⟩;rw[wS ak aO (v:=i) (by omega)]
     cbv
 ·have aY:v=es.length:=by rw[←aD,←ah]at hd;simp at hd;omega
  refine dp ?_;refine au rfl ?_;refine gK ?_;refine aN ?_;refine tr hr ⟨by simpa using uD.1,by simpa using uD.2,fun i h=>?_⟩;simp at h ⊢;exact hk i (by omega) h
theorem BO {rows sp Q:List (List PV)} {first:List UInt8} (hQ:Q=[.sl [[.str first]] []]::rows) (dW:rows≠[]) (hl:rows.length<2^32) (YY:cr 1 rows):pC mx 168 [.str first,.sl rows sp] (.sl Q []):=by
 refine pZ G4 ?_
 iterate 105 intro _
 intro gO
 iterate 10 intro _
 intro bO bs bE
 iterate 10 intro _
 intro aB aV aW bp bu ah aD;refine gK ?_;refine ae ?_ ?_
 ·rw[←bO,←gO,cU,lN];exact⟨⟨by simp only[List.length_cons,List.length_nil];omega,by simp only[List.length_cons,List.length_nil];omega,YY,fun r hr=>by simp at hr;subst hr;rfl⟩,Or.inr dW⟩
 rw[show bs [[.sl [[.str first]] []]] rows=Q by rw[←bE,bK,hQ];rfl];refine gK ?_;refine aN ?_;rfl
theorem Pw {tag:List UInt8} {data:List aaW} {q sp:List (List PV)} {r:Bool} (hq:q=data.map hU) (dW:data≠[]) (ht:tag.length<2^32) (hl:data.length<2^31) (hle:∀y∈data,y.1.length<2^32) (hr:r= !decide (eP tag∧cj ([tag]::data.map (·.1)))):pC mx 165 [.agg [.str tag,.sl q sp]] (.bool r):=by
 obtain⟨Q,hQ⟩:∃Q,Q=((([tag],[]):aaW)::data).map hU:=⟨_,rfl⟩
 have hqr:cr 1 q:=by rw[hq];exact fh (enc:=hU) (fun _=>⟨rfl,by simp[hU]⟩) _
 have UT:q.length=data.length:=by simp[hq]
 refine pZ G7 ?_
 iterate 129 intro _
 intro aB aV aW bp bu ah aD;refine gK ?_;refine bX (by cbv) (V1 ht rfl) (fun h=>?_) (fun h=>?_)<;>simp only[decide_eq_true_eq,decide_eq_false_iff_not]at h
 ·refine gK ?_;refine an (by cbv) (BO (Q:=Q) (by rw[hQ,hq];rfl) (fun h'=>dW (by rw[h']at UT;exact List.length_eq_zero_iff.1 UT.symm)) (by omega) hqr) (fun h=>by first|rfl|cases h) ?_;refine gK ?_
  refine bX (by cbv) (vF hQ (by simp;omega) (by
    intro y hy
    rcases List.mem_cons.1 hy with rfl|hy
    ·simp
    ·exact hle y hy) rfl) (fun h'=>?_) (fun h'=>?_)<;>simp only[decide_eq_true_eq,decide_eq_false_iff_not]at h'
  ·refine gK ?_;refine aN ?_;rw[hr,decide_eq_true (p:=eP tag∧cj ([tag]::data.map (fun y:aaW=>y.1))) ⟨h,show cj ([tag]::data.map (·.1)) from h'⟩];rfl
  ·refine gK ?_;refine aN ?_;rw[hr,decide_eq_false (p:=eP tag∧cj ([tag]::data.map (fun y:aaW=>y.1))) (fun x=>h' (show cj (List.map (·.1) ((([tag],[]):aaW)::data)) from x.2))];rfl
 ·refine gK ?_;refine aN ?_;rw[hr,decide_eq_false (p:=eP tag∧cj ([tag]::data.map (fun y:aaW=>y.1))) (fun x=>h x.1)];rfl
theorem IG {rows sp:List (List PV)} {ls:List lq} {r:Int} (cq:rows=ls.map lq.enc) (hl:ls.length<2^32) (hle:∀x∈ls,x.data≠[]∧x.tag.length<2^32∧x.data.length<2^31∧∀y∈x.data,y.1.length<2^32) (hr:fQ (fun k=>∃h:k<ls.length,¬(eP ls[k].tag∧cj ([ls[k].tag]::ls[k].val.data))) ls.length r):
  pC mx 255 [.sl rows sp,.gZ 165 []] (.int .i64 r):=by
 have hlen:rows.length=ls.length:=by simp[cq]
 refine pZ G1 ?_
 iterate 122 intro _
 intro aO _ ak aI aU aL aP aB aV aW bp bu ah aD;refine gK ?_;refine bG [0,1,6,7,8] [] (fun v σ_=>σ_.put (some 8) (.pv (.int .i64 (Int.ofNat v)))) (ls.length) (fun k=>(∀h:k<ls.length,eP ls[k].tag∧cj ([ls[k].tag]::ls[k].val.data))) ?_;intro v hv hk;refine dC ?_;refine bl.af (fun hd=>?_) (fun hd=>?_)
 ·have aY:v<ls.length:=by rw[←aD,←ah]at hd;simp at hd;omega
  have q0:=hle _ (List.getElem_mem aY);obtain⟨⟨Dp,ya,VO⟩,bh⟩:∃x,ls[v]=x:=⟨_,rfl⟩;rw[bh]at q0;dsimp only at q0;obtain⟨oq,gm⟩:∃q,q=ya.map hU:=⟨_,rfl⟩
  have bx:aL (Int.ofNat v) rows 2:=by rw[←aP,cq];exact aR (enc:=lq.enc) aY rfl
  have a6:aI rows (Int.ofNat v)=[.str Dp,.sl oq VO]:=by rw[←aU,cq,aQ (enc:=lq.enc) aY,bh,gm];rfl
  refine dp ?_;refine ae bx ?_;rw[a6];refine gK ?_;refine bX (by cbv) (Pw gm q0.1 q0.2.1 q0.2.2.1 q0.2.2.2 rfl) (fun h=>?_) (fun h=>?_)<;>simp only[Bool.not_eq_true',Bool.not_eq_false',decide_eq_true_eq,decide_eq_false_iff_not]at h
  ·refine gK ?_;refine dm ?_;rw[hr.at aY ⟨aY,by rw[bh];exact h⟩ (fun k eZ h'=>h'.2 (hk k eZ h'.1))]
  ·refine gK ?_;refine ai ⟨aY,fun _=>by rw[bh];exact h,?_⟩;rw[wS ak aO (v:=v) (by omega)]
   cbv
 ·have aY:v=ls.length:=by rw[←aD,←ah]at hd;simp at hd;omega
  refine dp ?_;refine au rfl ?_;refine gK ?_;refine aN ?_;rw[hr.none (fun k eZ h'=>h'.2 (hk k (by omega) h'.1))]
theorem vG {rows sp:List (List PV)} {ls:List lq} {kind ref:List UInt8} {res:Bool} (cq:rows=ls.map lq.enc) (hl:ls.length<2^32) (hk6:kind.length<2^32) (BB:ref.length<2^32) (hle:∀x∈ls,x.data≠[]∧x.tag.length<2^32∧x.data.length<2^31∧∀y∈x.data,y.1.length<2^32)
  (hr:res=decide (lj ⟨kind,ref,ls.map lq.val⟩)):pC mx 84 [.agg [.str kind,.str ref,.sl rows sp]] (.bool res):=by
 have hS:lj ⟨kind,ref,ls.map lq.val⟩↔kB kind∧mr ref∧∀k,(h:k<ls.length)→eP ls[k].tag∧cj ([ls[k].tag]::ls[k].val.data):=by
  constructor
  ·rintro⟨h1,h2,h3⟩;exact⟨h1,h2,fun k h=>by have:=h3 k (by simpa using h);simpa[lq.val]using this⟩
  ·rintro⟨h1,h2,h3⟩;exact⟨h1,h2,fun k h=>by simp at h;have:=h3 k h;simpa[lq.val]using this⟩
 obtain⟨n,hn⟩:=fQ.ex (fun k=>∃h:k<ls.length,¬(eP ls[k].tag∧cj ([ls[k].tag]::ls[k].val.data))) ls.length
 have fV:0≤n↔¬∀k,(h:k<ls.length)→eP ls[k].tag∧cj ([ls[k].tag]::ls[k].val.data):=by
  rw[hn.iff];constructor
  ·rintro⟨v,h1,h2,h3⟩ h;exact h3 (h v h2)
  ·intro h
   refine Classical.byContradiction fun h2=>h fun k hk=>?_
   exact Classical.byContradiction fun h3=>h2 ⟨k,hk,hk,h3⟩
 have h164:∀{b:Bool},b=decide (0≤n)→pC mx 164 [.sl rows sp,.gZ 165 []] (.bool b):=by
  intro b hb;refine pZ G2 ?_
  iterate 129 intro _
  intro aB aV aW bp bu ah aD;refine gK ?_;refine an (by cbv) (IG cq hl hle hn) (fun h=>by first|rfl|cases h) ?_;refine gK ?_
  repeat' (first|refine rQ ?_|(refine vy (fun hc=>?_) (fun hc=>?_)<;>(try simp at hc)<;>(try(exfalso;omega))))
  all_goals(refine aN ?_)
  all_goals first|exact tr hb (by omega)|exact fa hb (by omega)
 have hr:res=decide (kB kind∧mr ref∧∀k,(h:k<ls.length)→eP ls[k].tag∧cj ([ls[k].tag]::ls[k].val.data)):=by rw[hr];exact decide_eq_decide.2 hS
 refine pZ K4 ?_
 iterate 129 intro _
 intro aB aV aW bp bu ah aD;refine gK ?_;refine bX (by cbv) (Pg hk6 rfl) (fun h=>?_) (fun h=>?_)<;>simp only[decide_eq_true_eq,decide_eq_false_iff_not]at h
 ·refine gK ?_;refine bX (by cbv) (BG BB rfl) (fun h'=>?_) (fun h'=>?_)<;>simp only[decide_eq_true_eq,decide_eq_false_iff_not]at h'
  ·refine gK ?_;refine bX (by cbv) (h164 rfl) (fun h2=>?_) (fun h2=>?_)<;>simp only[decide_eq_true_eq,decide_eq_false_iff_not]at h2
   ·refine gK ?_;refine aN ?_;exact fa hr (fun x=>fV.1 h2 x.2.2)
   ·refine gK ?_;refine aN ?_;refine tr hr ⟨h,h',Classical.byContradiction fun h3=>h2 (fV.2 h3)⟩
  ·refine gK ?_;refine aN ?_;exact fa hr (fun x=>h' x.2.1)
 ·refine gK ?_;refine aN ?_;exact fa hr (fun x=>h x.1)
end Go.bW
end
