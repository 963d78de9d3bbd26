/- Lemmas on the program and its library: part ZShelf. -/
import Derived.Shelf.Strconv.Atoi
import Derived.Shelf.Strconv.Itoa0
import Derived.Shelf.Strconv.Itoa1
import Derived.Shelf.LaysM
import Derived.Shelf.Strconv.Itoa2
import Derived.Shelf.Strconv.Itoa3
import Derived.Shelf.Strings.Search1
import Derived.Shelf.Strings.Search2
import Derived.Shelf.Strings.Prefix
import Derived.Shelf.Strings.Repeat
import Derived.Lib.AppendIntMem
import Derived.Lib.AtoiErrMem
import Derived.Shelf.Small.Wraps
import Derived.Lib.Atoi
import Derived.Test.YtoiejgkkcfkliaaGreatDoorProg
import Derived.Test.YtoiejgkkcfkliaaGreatDoorZW12
set_option linter.unusedVariables false
set_option linter.unusedSimpArgs false
section
namespace Go.Proofs
open Go.Shelf
def Tryz.lays103_ren:Go.Shelf.Ren:=⟨fun|103=>116|210=>210|206=>243|n=>n,fun|9=>9|4=>4|24=>140|3=>3|n=>n,fun|n=>n⟩
theorem Tryz.lays103:Go.Proofs.Lays.n103 Tryz.prog Tryz.lays103_ren:={
  mixed:=by kernel_rfl
  f103:=Tryz.func116.trans (congrArg some (by kernel_rfl))
  f206:=Tryz.func243.trans (congrArg some (by kernel_rfl))
  f210:=Tryz.func210.trans (congrArg some (by kernel_rfl))
  t3:=Tryz.underlying3
  a3:=Tryz.isAgg3
  z3:=Tryz.sizeOf3
  v3:=Tryz.zeroValue3
  t4:=Tryz.underlying4
  a4:=Tryz.isAgg4
  z4:=Tryz.sizeOf4
  v4:=Tryz.zeroValue4
  t9:=Tryz.underlying9
  a9:=Tryz.isAgg9
  z9:=Tryz.sizeOf9
  v9:=Tryz.zeroValue9
  t24:=Tryz.underlying140
  a24:=Tryz.isAgg140
  z24:=Tryz.sizeOf140
  v24:=Tryz.zeroValue140 }
def Tryz.lays172_ren:Go.Shelf.Ren:=⟨fun|172=>214|244=>247|245=>248|247=>272|279=>273|280=>274|281=>275|282=>276|287=>288|316=>289|171=>280|205=>290|321=>297|322=>298|243=>291|246=>299|283=>300|284=>301|285=>302|286=>303|129=>287|317=>307|318=>308|319=>309|320=>310|337=>312|338=>313|n=>n,fun|9=>9|3=>3|75=>224|76=>225|4=>4|5=>5|167=>268|37=>269|0=>0|85=>270|2=>2|168=>272|53=>248|175=>285|46=>230|210=>289|127=>294|145=>298|143=>296|21=>21|171=>300|173=>302|212=>308|51=>282|20=>20|213=>309|232=>314|233=>315|80=>259|n=>n,fun|15=>3|16=>4|17=>5|18=>6|19=>7|n=>n⟩
theorem Tryz.lays172:Go.Proofs.Lays.n172 Tryz.prog Tryz.lays172_ren:={
  mixed:=by kernel_rfl
  f129:=Tryz.func287.trans (congrArg some (by kernel_rfl))
  f171:=Tryz.func280.trans (congrArg some (by kernel_rfl))
  f172:=Tryz.func214.trans (congrArg some (by kernel_rfl))
  f205:=Tryz.func290.trans (congrArg some (by kernel_rfl))
  f243:=Tryz.func291.trans (congrArg some (by kernel_rfl))
  f244:=Tryz.func247.trans (congrArg some (by kernel_rfl))
  f245:=Tryz.func248.trans (congrArg some (by kernel_rfl))
  f246:=Tryz.func299.trans (congrArg some (by kernel_rfl))
  f247:=Tryz.func272.trans (congrArg some (by kernel_rfl))
  f279:=Tryz.func273.trans (congrArg some (by kernel_rfl))
  f280:=Tryz.func274.trans (congrArg some (by kernel_rfl))
  f281:=Tryz.func275.trans (congrArg some (by kernel_rfl))
  f282:=Tryz.func276.trans (congrArg some (by kernel_rfl))
  f283:=Tryz.func300.trans (congrArg some (by kernel_rfl))
  f284:=Tryz.func301.trans (congrArg some (by kernel_rfl))
  f285:=Tryz.func302.trans (congrArg some (by kernel_rfl))
  f286:=Tryz.func303.trans (congrArg some (by kernel_rfl))
  f287:=Tryz.func288.trans (congrArg some (by kernel_rfl))
  f316:=Tryz.func289.trans (congrArg some (by kernel_rfl))
  f317:=Tryz.func307.trans (congrArg some (by kernel_rfl))
  f318:=Tryz.func308.trans (congrArg some (by kernel_rfl))
  f319:=Tryz.func309.trans (congrArg some (by kernel_rfl))
  f320:=Tryz.func310.trans (congrArg some (by kernel_rfl))
  f321:=Tryz.func297.trans (congrArg some (by kernel_rfl))
  f322:=Tryz.func298.trans (congrArg some (by kernel_rfl))
  f337:=Tryz.func312.trans (congrArg some (by kernel_rfl))
  f338:=Tryz.func313.trans (congrArg some (by kernel_rfl))
  t0:=Tryz.underlying0
  a0:=Tryz.isAgg0
  z0:=Tryz.sizeOf0
  v0:=Tryz.zeroValue0
  t2:=Tryz.underlying2
  a2:=Tryz.isAgg2
  z2:=Tryz.sizeOf2
  v2:=Tryz.zeroValue2
  t3:=Tryz.underlying3
  a3:=Tryz.isAgg3
  z3:=Tryz.sizeOf3
  v3:=Tryz.zeroValue3
  t4:=Tryz.underlying4
  a4:=Tryz.isAgg4
  z4:=Tryz.sizeOf4
  v4:=Tryz.zeroValue4
  t5:=Tryz.underlying5
  a5:=Tryz.isAgg5
  z5:=Tryz.sizeOf5
  v5:=Tryz.zeroValue5
  t9:=Tryz.underlying9
  a9:=Tryz.isAgg9
  z9:=Tryz.sizeOf9
  v9:=Tryz.zeroValue9
  t20:=Tryz.underlying20
  a20:=Tryz.isAgg20
  z20:=Tryz.sizeOf20
  v20:=Tryz.zeroValue20
  t21:=Tryz.underlying21
  a21:=Tryz.isAgg21
  z21:=Tryz.sizeOf21
  v21:=Tryz.zeroValue21
  t37:=Tryz.underlying269
  a37:=Tryz.isAgg269
  z37:=Tryz.sizeOf269
  v37:=Tryz.zeroValue269
  t46:=Tryz.underlying230
  a46:=Tryz.isAgg230
  z46:=Tryz.sizeOf230
  v46:=Tryz.zeroValue230
  t51:=Tryz.underlying282
  a51:=Tryz.isAgg282
  z51:=Tryz.sizeOf282
  v51:=Tryz.zeroValue282
  t53:=Tryz.underlying248
  a53:=Tryz.isAgg248
  z53:=Tryz.sizeOf248
  v53:=Tryz.zeroValue248
  t75:=Tryz.underlying224
  a75:=Tryz.isAgg224
  z75:=Tryz.sizeOf224
  v75:=Tryz.zeroValue224
  t76:=Tryz.underlying225
  a76:=Tryz.isAgg225
  z76:=Tryz.sizeOf225
  v76:=Tryz.zeroValue225
  t85:=Tryz.underlying270
  a85:=Tryz.isAgg270
  z85:=Tryz.sizeOf270
  v85:=Tryz.zeroValue270
  t127:=Tryz.underlying294
  a127:=Tryz.isAgg294
  z127:=Tryz.sizeOf294
  v127:=Tryz.zeroValue294
  t143:=Tryz.underlying296
  a143:=Tryz.isAgg296
  z143:=Tryz.sizeOf296
  v143:=Tryz.zeroValue296
  t145:=Tryz.underlying298
  a145:=Tryz.isAgg298
  z145:=Tryz.sizeOf298
  v145:=Tryz.zeroValue298
  t167:=Tryz.underlying268
  a167:=Tryz.isAgg268
  z167:=Tryz.sizeOf268
  v167:=Tryz.zeroValue268
  t168:=Tryz.underlying272
  a168:=Tryz.isAgg272
  z168:=Tryz.sizeOf272
  v168:=Tryz.zeroValue272
  t171:=Tryz.underlying300
  a171:=Tryz.isAgg300
  z171:=Tryz.sizeOf300
  v171:=Tryz.zeroValue300
  t173:=Tryz.underlying302
  a173:=Tryz.isAgg302
  z173:=Tryz.sizeOf302
  v173:=Tryz.zeroValue302
  t175:=Tryz.underlying285
  a175:=Tryz.isAgg285
  z175:=Tryz.sizeOf285
  v175:=Tryz.zeroValue285
  t210:=Tryz.underlying289
  a210:=Tryz.isAgg289
  z210:=Tryz.sizeOf289
  v210:=Tryz.zeroValue289
  t212:=Tryz.underlying308
  a212:=Tryz.isAgg308
  z212:=Tryz.sizeOf308
  v212:=Tryz.zeroValue308
  t213:=Tryz.underlying309
  a213:=Tryz.isAgg309
  z213:=Tryz.sizeOf309
  t232:=Tryz.underlying314
  a232:=Tryz.isAgg314
  z232:=Tryz.sizeOf314
  v232:=Tryz.zeroValue314
  t233:=Tryz.underlying315
  a233:=Tryz.isAgg315
  z233:=Tryz.sizeOf315
  v233:=Tryz.zeroValue315
  g15:=by kernel_rfl
  g16:=by kernel_rfl
  g17:=by kernel_rfl
  g18:=by kernel_rfl
  g19:=by kernel_rfl }
def Tryz.lays283_ren:Go.Shelf.Ren:=⟨fun|283=>300|n=>n,fun|3=>3|9=>9|4=>4|n=>n,fun|n=>n⟩
theorem Tryz.lays283:Go.Proofs.Lays.n283 Tryz.prog Tryz.lays283_ren:={
  mixed:=by kernel_rfl
  f283:=Tryz.func300.trans (congrArg some (by kernel_rfl))
  t3:=Tryz.underlying3
  a3:=Tryz.isAgg3
  z3:=Tryz.sizeOf3
  v3:=Tryz.zeroValue3
  t4:=Tryz.underlying4
  a4:=Tryz.isAgg4
  z4:=Tryz.sizeOf4
  v4:=Tryz.zeroValue4
  t9:=Tryz.underlying9
  a9:=Tryz.isAgg9
  z9:=Tryz.sizeOf9
  v9:=Tryz.zeroValue9 }
def Tryz.laysM284_ren:Go.Shelf.Ren:=⟨fun|284=>301|129=>287|317=>307|318=>308|n=>n,fun|53=>248|3=>3|212=>308|0=>0|4=>4|46=>230|5=>5|9=>9|n=>n,fun|17=>5|n=>n⟩
theorem Tryz.laysM284:Go.Proofs.LaysM.n284 Tryz.prog Tryz.laysM284_ren:={
  mixed:=by kernel_rfl
  f129:=Tryz.func287.trans (congrArg some (by kernel_rfl))
  f284:=Tryz.func301.trans (congrArg some (by kernel_rfl))
  f317:=Tryz.func307.trans (congrArg some (by kernel_rfl))
  f318:=Tryz.func308.trans (congrArg some (by kernel_rfl))
  t0:=Tryz.underlying0
  a0:=Tryz.isAgg0
  z0:=Tryz.sizeOf0
  v0:=Tryz.zeroValue0
  t3:=Tryz.underlying3
  a3:=Tryz.isAgg3
  z3:=Tryz.sizeOf3
  v3:=Tryz.zeroValue3
  t4:=Tryz.underlying4
  a4:=Tryz.isAgg4
  z4:=Tryz.sizeOf4
  v4:=Tryz.zeroValue4
  t5:=Tryz.underlying5
  a5:=Tryz.isAgg5
  z5:=Tryz.sizeOf5
  v5:=Tryz.zeroValue5
  t9:=Tryz.underlying9
  a9:=Tryz.isAgg9
  z9:=Tryz.sizeOf9
  v9:=Tryz.zeroValue9
  t46:=Tryz.underlying230
  a46:=Tryz.isAgg230
  z46:=Tryz.sizeOf230
  v46:=Tryz.zeroValue230
  t53:=Tryz.underlying248
  a53:=Tryz.isAgg248
  z53:=Tryz.sizeOf248
  v53:=Tryz.zeroValue248
  t212:=Tryz.underlying308
  a212:=Tryz.isAgg308
  z212:=Tryz.sizeOf308
  v212:=Tryz.zeroValue308
  g17:=by kernel_rfl
  i0:=by kernel_rfl
  i3:=by kernel_rfl
  i4:=by kernel_rfl
  i5:=by kernel_rfl
  i9:=by kernel_rfl
  i46:=by kernel_rfl
  i53:=by kernel_rfl
  i212:=by kernel_rfl
  m17:=by kernel_rfl }
def Tryz.lays285_ren:Go.Shelf.Ren:=⟨fun|285=>302|n=>n,fun|37=>269|53=>248|3=>3|4=>4|51=>282|9=>9|5=>5|0=>0|n=>n,fun|n=>n⟩
theorem Tryz.lays285:Go.Proofs.Lays.n285 Tryz.prog Tryz.lays285_ren:={
  mixed:=by kernel_rfl
  f285:=Tryz.func302.trans (congrArg some (by kernel_rfl))
  t0:=Tryz.underlying0
  a0:=Tryz.isAgg0
  z0:=Tryz.sizeOf0
  v0:=Tryz.zeroValue0
  t3:=Tryz.underlying3
  a3:=Tryz.isAgg3
  z3:=Tryz.sizeOf3
  v3:=Tryz.zeroValue3
  t4:=Tryz.underlying4
  a4:=Tryz.isAgg4
  z4:=Tryz.sizeOf4
  v4:=Tryz.zeroValue4
  t5:=Tryz.underlying5
  a5:=Tryz.isAgg5
  z5:=Tryz.sizeOf5
  v5:=Tryz.zeroValue5
  t9:=Tryz.underlying9
  a9:=Tryz.isAgg9
  z9:=Tryz.sizeOf9
  v9:=Tryz.zeroValue9
  t37:=Tryz.underlying269
  a37:=Tryz.isAgg269
  z37:=Tryz.sizeOf269
  v37:=Tryz.zeroValue269
  t51:=Tryz.underlying282
  a51:=Tryz.isAgg282
  z51:=Tryz.sizeOf282
  v51:=Tryz.zeroValue282
  t53:=Tryz.underlying248
  a53:=Tryz.isAgg248
  z53:=Tryz.sizeOf248
  v53:=Tryz.zeroValue248 }
def Tryz.laysM171_ren:Go.Shelf.Ren:=⟨fun|171=>280|243=>291|246=>299|283=>300|284=>301|285=>302|286=>303|129=>287|317=>307|318=>308|319=>309|320=>310|337=>312|338=>313|n=>n,fun|3=>3|9=>9|2=>2|4=>4|171=>300|0=>0|53=>248|37=>269|5=>5|173=>302|212=>308|51=>282|20=>20|213=>309|46=>230|232=>314|233=>315|n=>n,fun|17=>5|18=>6|19=>7|n=>n⟩
theorem Tryz.laysM171:Go.Proofs.LaysM.n171 Tryz.prog Tryz.laysM171_ren:={
  mixed:=by kernel_rfl
  f129:=Tryz.func287.trans (congrArg some (by kernel_rfl))
  f171:=Tryz.func280.trans (congrArg some (by kernel_rfl))
  f243:=Tryz.func291.trans (congrArg some (by kernel_rfl))
  f246:=Tryz.func299.trans (congrArg some (by kernel_rfl))
  f283:=Tryz.func300.trans (congrArg some (by kernel_rfl))
  f284:=Tryz.func301.trans (congrArg some (by kernel_rfl))
  f285:=Tryz.func302.trans (congrArg some (by kernel_rfl))
  f286:=Tryz.func303.trans (congrArg some (by kernel_rfl))
  f317:=Tryz.func307.trans (congrArg some (by kernel_rfl))
  f318:=Tryz.func308.trans (congrArg some (by kernel_rfl))
  f319:=Tryz.func309.trans (congrArg some (by kernel_rfl))
  f320:=Tryz.func310.trans (congrArg some (by kernel_rfl))
  f337:=Tryz.func312.trans (congrArg some (by kernel_rfl))
  f338:=Tryz.func313.trans (congrArg some (by kernel_rfl))
  t0:=Tryz.underlying0
  a0:=Tryz.isAgg0
  z0:=Tryz.sizeOf0
  v0:=Tryz.zeroValue0
  t2:=Tryz.underlying2
  a2:=Tryz.isAgg2
  z2:=Tryz.sizeOf2
  v2:=Tryz.zeroValue2
  t3:=Tryz.underlying3
  a3:=Tryz.isAgg3
  z3:=Tryz.sizeOf3
  v3:=Tryz.zeroValue3
  t4:=Tryz.underlying4
  a4:=Tryz.isAgg4
  z4:=Tryz.sizeOf4
  v4:=Tryz.zeroValue4
  t5:=Tryz.underlying5
  a5:=Tryz.isAgg5
  z5:=Tryz.sizeOf5
  v5:=Tryz.zeroValue5
  t9:=Tryz.underlying9
  a9:=Tryz.isAgg9
  z9:=Tryz.sizeOf9
  v9:=Tryz.zeroValue9
  t20:=Tryz.underlying20
  a20:=Tryz.isAgg20
  z20:=Tryz.sizeOf20
  v20:=Tryz.zeroValue20
  t37:=Tryz.underlying269
  a37:=Tryz.isAgg269
  z37:=Tryz.sizeOf269
  v37:=Tryz.zeroValue269
  t46:=Tryz.underlying230
  a46:=Tryz.isAgg230
  z46:=Tryz.sizeOf230
  v46:=Tryz.zeroValue230
  t51:=Tryz.underlying282
  a51:=Tryz.isAgg282
  z51:=Tryz.sizeOf282
  v51:=Tryz.zeroValue282
  t53:=Tryz.underlying248
  a53:=Tryz.isAgg248
  z53:=Tryz.sizeOf248
  v53:=Tryz.zeroValue248
  t171:=Tryz.underlying300
  a171:=Tryz.isAgg300
  z171:=Tryz.sizeOf300
  v171:=Tryz.zeroValue300
  t173:=Tryz.underlying302
  a173:=Tryz.isAgg302
  z173:=Tryz.sizeOf302
  v173:=Tryz.zeroValue302
  t212:=Tryz.underlying308
  a212:=Tryz.isAgg308
  z212:=Tryz.sizeOf308
  v212:=Tryz.zeroValue308
  t213:=Tryz.underlying309
  a213:=Tryz.isAgg309
  z213:=Tryz.sizeOf309
  t232:=Tryz.underlying314
  a232:=Tryz.isAgg314
  z232:=Tryz.sizeOf314
  v232:=Tryz.zeroValue314
  t233:=Tryz.underlying315
  a233:=Tryz.isAgg315
  z233:=Tryz.sizeOf315
  v233:=Tryz.zeroValue315
  g17:=by kernel_rfl
  g18:=by kernel_rfl
  g19:=by kernel_rfl
  i0:=by kernel_rfl
  i2:=by kernel_rfl
  i3:=by kernel_rfl
  i4:=by kernel_rfl
  i5:=by kernel_rfl
  i9:=by kernel_rfl
  i20:=by kernel_rfl
  i37:=by kernel_rfl
  i46:=by kernel_rfl
  i51:=by kernel_rfl
  i53:=by kernel_rfl
  i171:=by kernel_rfl
  i173:=by kernel_rfl
  i212:=by kernel_rfl
  i232:=by kernel_rfl
  i233:=by kernel_rfl
  m17:=by kernel_rfl
  m18:=by kernel_rfl
  m19:=by kernel_rfl }
def Tryz.lays219_ren:Go.Shelf.Ren:=⟨fun|219=>242|217=>263|225=>264|224=>265|267=>266|266=>285|314=>286|n=>n,fun|9=>9|3=>3|4=>4|5=>5|46=>230|146=>283|51=>282|n=>n,fun|1=>0|n=>n⟩
theorem Tryz.lays219:Go.Proofs.Lays.n219 Tryz.prog Tryz.lays219_ren:={
  mixed:=by kernel_rfl
  f217:=Tryz.func263.trans (congrArg some (by kernel_rfl))
  f219:=Tryz.func242.trans (congrArg some (by kernel_rfl))
  f224:=Tryz.func265.trans (congrArg some (by kernel_rfl))
  f225:=Tryz.func264.trans (congrArg some (by kernel_rfl))
  f266:=Tryz.func285.trans (congrArg some (by kernel_rfl))
  f267:=Tryz.func266.trans (congrArg some (by kernel_rfl))
  f314:=Tryz.func286.trans (congrArg some (by kernel_rfl))
  t3:=Tryz.underlying3
  a3:=Tryz.isAgg3
  z3:=Tryz.sizeOf3
  v3:=Tryz.zeroValue3
  t4:=Tryz.underlying4
  a4:=Tryz.isAgg4
  z4:=Tryz.sizeOf4
  v4:=Tryz.zeroValue4
  t5:=Tryz.underlying5
  a5:=Tryz.isAgg5
  z5:=Tryz.sizeOf5
  v5:=Tryz.zeroValue5
  t9:=Tryz.underlying9
  a9:=Tryz.isAgg9
  z9:=Tryz.sizeOf9
  v9:=Tryz.zeroValue9
  t46:=Tryz.underlying230
  a46:=Tryz.isAgg230
  z46:=Tryz.sizeOf230
  v46:=Tryz.zeroValue230
  t51:=Tryz.underlying282
  a51:=Tryz.isAgg282
  z51:=Tryz.sizeOf282
  v51:=Tryz.zeroValue282
  t146:=Tryz.underlying283
  a146:=Tryz.isAgg283
  z146:=Tryz.sizeOf283
  v146:=Tryz.zeroValue283
  g1:=by kernel_rfl }
def Tryz.lays99_ren:Go.Shelf.Ren:=⟨fun|99=>212|206=>243|n=>n,fun|9=>9|4=>4|3=>3|n=>n,fun|n=>n⟩
theorem Tryz.lays99:Go.Proofs.Lays.n99 Tryz.prog Tryz.lays99_ren:={
  mixed:=by kernel_rfl
  f99:=Tryz.func212.trans (congrArg some (by kernel_rfl))
  f206:=Tryz.func243.trans (congrArg some (by kernel_rfl))
  t3:=Tryz.underlying3
  a3:=Tryz.isAgg3
  z3:=Tryz.sizeOf3
  v3:=Tryz.zeroValue3
  t4:=Tryz.underlying4
  a4:=Tryz.isAgg4
  z4:=Tryz.sizeOf4
  v4:=Tryz.zeroValue4
  t9:=Tryz.underlying9
  a9:=Tryz.isAgg9
  z9:=Tryz.sizeOf9
  v9:=Tryz.zeroValue9 }
def Tryz.lays101_ren:Go.Shelf.Ren:=⟨fun|101=>213|208=>246|206=>243|n=>n,fun|9=>9|4=>4|3=>3|n=>n,fun|n=>n⟩
theorem Tryz.lays101:Go.Proofs.Lays.n101 Tryz.prog Tryz.lays101_ren:={
  mixed:=by kernel_rfl
  f101:=Tryz.func213.trans (congrArg some (by kernel_rfl))
  f206:=Tryz.func243.trans (congrArg some (by kernel_rfl))
  f208:=Tryz.func246.trans (congrArg some (by kernel_rfl))
  t3:=Tryz.underlying3
  a3:=Tryz.isAgg3
  z3:=Tryz.sizeOf3
  v3:=Tryz.zeroValue3
  t4:=Tryz.underlying4
  a4:=Tryz.isAgg4
  z4:=Tryz.sizeOf4
  v4:=Tryz.zeroValue4
  t9:=Tryz.underlying9
  a9:=Tryz.isAgg9
  z9:=Tryz.sizeOf9
  v9:=Tryz.zeroValue9 }
def Tryz.lays105_ren:Go.Shelf.Ren:=⟨fun|105=>282|212=>293|99=>212|165=>294|166=>283|170=>295|169=>284|263=>304|264=>249|206=>243|240=>296|241=>305|276=>306|277=>311|n=>n,fun|9=>9|3=>3|4=>4|20=>20|0=>0|46=>230|109=>291|5=>5|72=>281|76=>225|51=>282|146=>283|53=>248|148=>249|70=>279|37=>269|75=>224|127=>294|164=>305|80=>259|n=>n,fun|n=>n⟩
theorem Tryz.lays105:Go.Proofs.Lays.n105 Tryz.prog Tryz.lays105_ren:={
  mixed:=by kernel_rfl
  f99:=Tryz.func212.trans (congrArg some (by kernel_rfl))
  f105:=Tryz.func282.trans (congrArg some (by kernel_rfl))
  f165:=Tryz.func294.trans (congrArg some (by kernel_rfl))
  f166:=Tryz.func283.trans (congrArg some (by kernel_rfl))
  f169:=Tryz.func284.trans (congrArg some (by kernel_rfl))
  f170:=Tryz.func295.trans (congrArg some (by kernel_rfl))
  f206:=Tryz.func243.trans (congrArg some (by kernel_rfl))
  f212:=Tryz.func293.trans (congrArg some (by kernel_rfl))
  f240:=Tryz.func296.trans (congrArg some (by kernel_rfl))
  f241:=Tryz.func305.trans (congrArg some (by kernel_rfl))
  f263:=Tryz.func304.trans (congrArg some (by kernel_rfl))
  f264:=Tryz.func249.trans (congrArg some (by kernel_rfl))
  f276:=Tryz.func306.trans (congrArg some (by kernel_rfl))
  f277:=Tryz.func311.trans (congrArg some (by kernel_rfl))
  t0:=Tryz.underlying0
  a0:=Tryz.isAgg0
  z0:=Tryz.sizeOf0
  v0:=Tryz.zeroValue0
  t3:=Tryz.underlying3
  a3:=Tryz.isAgg3
  z3:=Tryz.sizeOf3
  v3:=Tryz.zeroValue3
  t4:=Tryz.underlying4
  a4:=Tryz.isAgg4
  z4:=Tryz.sizeOf4
  v4:=Tryz.zeroValue4
  t5:=Tryz.underlying5
  a5:=Tryz.isAgg5
  z5:=Tryz.sizeOf5
  v5:=Tryz.zeroValue5
  t9:=Tryz.underlying9
  a9:=Tryz.isAgg9
  z9:=Tryz.sizeOf9
  v9:=Tryz.zeroValue9
  t20:=Tryz.underlying20
  a20:=Tryz.isAgg20
  z20:=Tryz.sizeOf20
  v20:=Tryz.zeroValue20
  t37:=Tryz.underlying269
  a37:=Tryz.isAgg269
  z37:=Tryz.sizeOf269
  v37:=Tryz.zeroValue269
  t46:=Tryz.underlying230
  a46:=Tryz.isAgg230
  z46:=Tryz.sizeOf230
  v46:=Tryz.zeroValue230
  t51:=Tryz.underlying282
  a51:=Tryz.isAgg282
  z51:=Tryz.sizeOf282
  v51:=Tryz.zeroValue282
  t53:=Tryz.underlying248
  a53:=Tryz.isAgg248
  z53:=Tryz.sizeOf248
  v53:=Tryz.zeroValue248
  t70:=Tryz.underlying279
  a70:=Tryz.isAgg279
  z70:=Tryz.sizeOf279
  v70:=Tryz.zeroValue279
  t72:=Tryz.underlying281
  a72:=Tryz.isAgg281
  z72:=Tryz.sizeOf281
  v72:=Tryz.zeroValue281
  t75:=Tryz.underlying224
  a75:=Tryz.isAgg224
  z75:=Tryz.sizeOf224
  v75:=Tryz.zeroValue224
  t76:=Tryz.underlying225
  a76:=Tryz.isAgg225
  z76:=Tryz.sizeOf225
  v76:=Tryz.zeroValue225
  t109:=Tryz.underlying291
  a109:=Tryz.isAgg291
  z109:=Tryz.sizeOf291
  v109:=Tryz.zeroValue291
  t127:=Tryz.underlying294
  a127:=Tryz.isAgg294
  z127:=Tryz.sizeOf294
  v127:=Tryz.zeroValue294
  t146:=Tryz.underlying283
  a146:=Tryz.isAgg283
  z146:=Tryz.sizeOf283
  v146:=Tryz.zeroValue283
  t148:=Tryz.underlying249
  a148:=Tryz.isAgg249
  z148:=Tryz.sizeOf249
  v148:=Tryz.zeroValue249
  t164:=Tryz.underlying305
  a164:=Tryz.isAgg305
  z164:=Tryz.sizeOf305
  v164:=Tryz.zeroValue305 }
theorem Tryz.Builder_Extra_105:Builder.Extra Tryz.prog Tryz.lays105_ren:={
  sizeBuilder:=by kernel_rfl
  liesBuilder:=by kernel_rfl
  t5:=Tryz.underlying5
  a5:=Tryz.isAgg5
  z5:=Tryz.sizeOf5
  v5:=Tryz.zeroValue5
  infoByte:=by kernel_rfl
  cellsByte:=by kernel_rfl
  sizeByte:=by kernel_rfl
  neB5:=by decide }
end Go.Proofs
end
section
set_option maxHeartbeats 6400000
set_option maxRecDepth 100000
namespace Go.Proofs
open Go.Ax Go.RowKit Go.Sort
abbrev bs (l:List UInt8):ByteArray:=⟨l.toArray⟩
theorem d1b {E:u6} {w:World} {x:Value} {vs:List Value} (h:RVs E w [.one (.v x)] vs):vs= [x]:=by
  obtain ⟨v,r,rfl,h1,h2⟩:=h
  obtain rfl:r= []:=h2
  obtain ⟨_,h3,_⟩:=h1
  simp only [List.cons.injEq,and_true] at h3
  rw [h3]
theorem d9i {E:u6} {w:World} {x y:Value} {vs:List Value} (h:RVs E w [.one (.v x),.one (.v y)] vs):vs= [x,y]:=by
  obtain ⟨v,r,rfl,h1,h2⟩:=h
  obtain ⟨_,h3,_⟩:=h1
  simp only [List.cons.injEq,and_true] at h3
  rw [h3,d1b h2]
theorem b1j {f:FuncId} {x v:Value} {r:AV} (hf:a88 Tryz.prog f) (hr:r.cl 0) (hv:∀E w,RV E w r v) (h:∀w,G w→Calls Tryz.prog f #[x] w fun e w'=>e= .returned v∧Below w.heap.size w w') :
    Ax.Pure Tryz.prog G f [.one (.v x)] r:=
  ⟨hf,⟨⟨trivial,trivial⟩,hr⟩,fun E w vs _ _ hG _ hvs=>by
    rw [d1b hvs]
    exact (h w hG).mono fun e w' ⟨h1,h2⟩=>⟨v,h1,hv _ _,h2⟩⟩
theorem a4g {f:FuncId} {x y v:Value} {r:AV} (hf:a88 Tryz.prog f) (hr:r.cl 0) (hv:∀E w,RV E w r v) (h:∀w,G w→Calls Tryz.prog f #[x,y] w fun e w'=>e= .returned v∧Below w.heap.size w w') :
    Ax.Pure Tryz.prog G f [.one (.v x),.one (.v y)] r:=
  ⟨hf,⟨⟨trivial,trivial,trivial⟩,hr⟩,fun E w vs _ _ hG _ hvs=>by
    rw [d9i hvs]
    exact (h w hG).mono fun e w' ⟨h1,h2⟩=>⟨v,h1,hv _ _,h2⟩⟩
theorem c88 (v:Value) (h:v.oneCell'=true):∀E w,RV E w (.one (.v v)) v:=fun _ _=>⟨rfl,rfl,h⟩
theorem c5w (s p:ByteArray):Ax.Pure Tryz.prog G 212 [S s,S p] (.one (.v (.bool (Lib.hasPrefix s.data.toList p.data.toList)))):=
  a4g ⟨_,Tryz.func212,by kernel_rfl,by kernel_rfl⟩ trivial (c88 _ rfl) fun w _=>
    (Any.strings_HasPrefix Tryz.lays99 s p w).mono fun _ _ ⟨h1,h2⟩=>⟨h1,by rw [h2];exact Below.refl _ _⟩
theorem b4q (s p:ByteArray):Ax.Pure Tryz.prog G 213 [S s,S p] (S (bs (Lib.trimPrefix s.data.toList p.data.toList))):=
  a4g ⟨_,Tryz.func213,by kernel_rfl,by kernel_rfl⟩ trivial (c88 _ rfl) fun w _=>
    (Any.strings_TrimPrefix Tryz.lays101 s p w).mono fun _ _ ⟨h1,h2⟩=>⟨h1,by rw [h2];exact Below.refl _ _⟩
theorem b7t (s p:ByteArray):Ax.Pure Tryz.prog G 116 [S s,S p] (.tup [S (bs (Lib.trimPrefix s.data.toList p.data.toList)),.one (.v (.bool (Lib.hasPrefix s.data.toList p.data.toList)))]):=
  a4g ⟨_,Tryz.func116,by kernel_rfl,by kernel_rfl⟩ ⟨trivial,trivial,trivial⟩ (fun _ _=>⟨_,rfl,_,_,rfl,⟨rfl,rfl,rfl⟩,_,_,rfl,⟨rfl,rfl,rfl⟩,rfl⟩) fun w _=>
    (Any.strings_CutPrefix Tryz.lays103 s p w).mono fun _ _ ⟨h1,h2⟩=>⟨h1,by rw [h2];exact Below.refl _ _⟩
theorem c5x (s:ByteArray) (c:UInt8):Ax.Pure Tryz.prog G 242 [S s,S ⟨#[c]⟩] (N (Lib.indexByte s.data.toList c)):=
  a4g ⟨_,Tryz.func242,by kernel_rfl,by kernel_rfl⟩ trivial (c88 _ rfl) fun w _=>
    (Any.stringslite_Index_one Tryz.lays219 s c w).mono fun _ _ ⟨h1,h2⟩=>⟨h1,by rw [h2];exact Below.refl _ _⟩
theorem e08 (s:ByteArray) (n:Int) (hl:s.size≤18) (h:Lib.atoi s.data.toList=some n):Ax.Pure Tryz.prog G 214 [S s] (.tup [N n,.one (.v .nilIface)]):=
  b1j ⟨_,Tryz.func214,by kernel_rfl,by kernel_rfl⟩ ⟨trivial,trivial,trivial⟩ (fun _ _=>⟨_,rfl,_,_,rfl,⟨rfl,rfl,rfl⟩,_,_,rfl,⟨rfl,rfl,rfl⟩,rfl⟩) fun w _=>
    (Any.strconv_Atoi Tryz.lays172 s n hl h w).mono fun _ _ ⟨h1,t,h2⟩=>⟨h1,by rw [h2];exact Lib.bytesWorld_below _ _ _⟩
theorem e1a (n:Int) (h0:-9223372036854775808≤n) (h1:n < 9223372036854775808):Ax.Pure Tryz.prog G 280 [N n] (S (bs (Lib.itoa n))):=
  b1j ⟨_,Tryz.func280,by kernel_rfl,by kernel_rfl⟩ trivial (c88 _ rfl) fun w hG=>by
    refine (Any.strconv_Itoa Tryz.laysM171 n h0 (by omega) w ?_).mono fun _ _ ⟨h1,k,os,h2⟩=>⟨h1,by rw [h2];exact Lib.below_grow _ _ (Nat.le_refl _) _ _⟩
    unfold Lib.TabIs World.var?
    rw [show Tryz.prog.globalNamed _=some 5 by kernel_rfl]
    exact hG
theorem hold0 (w:World) (o:Obj) (dk:Array UInt8) (k:Nat):Below w.heap.size w ((putRow (fun (b:UInt8)=>Value.int .u8 (b.toNat:Int)) (w.alloc o) w.heap.size 0 dk).drewN k):=by
  rw [Sort.alloc_eq_grow]
  obtain ⟨os',_,e⟩:=putRow_grow_new (fun (b:UInt8)=>Value.int .u8 (b.toNat:Int)) w #[o] w.heap.size 0 dk (Nat.le_refl _)
  have:(putRow (fun (b:UInt8)=>Value.int .u8 (b.toNat:Int)) (Sort.grow w #[o]) w.heap.size 0 dk).drewN k=Sort.grow (w.drewN k) os':=by rw [e];rfl
  rw [this]
  exact Lib.below_grow _ _ (Nat.le_refl _) _ _
theorem c4z (u:Nat) (hu64:u < 18446744073709551616) (w:World) (hG:G w) :
    Calls Tryz.prog 292 #[.int .u64 u,.int .i64 10] w fun e w'=>e= .returned (.string ⟨(Lib.decDigits u).toArray⟩)∧Below w.heap.size w w':=by
  have mixed:=mixed
  have t3:=Tryz.underlying3;have a3:=Tryz.isAgg3;have z3:=Tryz.sizeOf3;have v3:=Tryz.zeroValue3
  have t9:=Tryz.underlying9;have a9:=Tryz.isAgg9;have z9:=Tryz.sizeOf9;have v9:=Tryz.zeroValue9
  have t4:=Tryz.underlying4;have a4:=Tryz.isAgg4;have z4:=Tryz.sizeOf4;have v4:=Tryz.zeroValue4
  have t300:=Tryz.underlying300;have a300:=Tryz.isAgg300;have z300:=Tryz.sizeOf300;have v300:=Tryz.zeroValue300
  have t0:=Tryz.underlying0;have a0:=Tryz.isAgg0;have z0:=Tryz.sizeOf0;have v0:=Tryz.zeroValue0
  have t248:=Tryz.underlying248;have a248:=Tryz.isAgg248;have z248:=Tryz.sizeOf248;have v248:=Tryz.zeroValue248
  have t269:=Tryz.underlying269;have a269:=Tryz.isAgg269;have z269:=Tryz.sizeOf269;have v269:=Tryz.zeroValue269
  have t5:=Tryz.underlying5;have a5:=Tryz.isAgg5;have z5:=Tryz.sizeOf5;have v5:=Tryz.zeroValue5
  by_cases hs:u < 100
  · have hsm:∀w,Calls Tryz.prog 300 #[.int .i64 u] w fun e w'=>e= .returned (.string ⟨(Lib.decDigits u).toArray⟩)∧w'=w:=fun w=>Any.internal_strconv_small Tryz.lays283 u hs w
    have hwr:IntKind.i64.wrap (u:Int)=u:=by rw [IntKind.wrap_i64];omega
    go_enter Tryz.func292,Tryz.ntmps292
    go_wp2_with (go_at_call 300;refine (hsm _).mono ?_;rintro e w' ⟨rfl,rfl⟩)
    go_ret
    exact ⟨rfl,Below.refl _ _⟩
  · have hu1:1≤u:=by omega
    have hnd20:Lib.nDigits u≤20:=by have:=Lib.numDigits_eq u hu1 hu64;split at this <;> omega
    have hal:Tryz.prog.arrayLen 300=24:=by simp [Program.arrayLen,t300]
    have hsl1:∀W,(Instr.sliceAt 300 (.pointer (some ⟨w.heap.size,0,none⟩)) none (some (.int .i64 (Lib.nDigits u:Int))) none).run Tryz.prog W= .ok (.slice (some ⟨w.heap.size,0,none⟩) (Lib.nDigits u) 24) W:=fun W=>by
      rw [run_sliceAt_array_h W 300 ⟨w.heap.size,0,none⟩ (by simp [Program.arrayLen,Program.elem,t300]) .i64 (Lib.nDigits u:Int) (by omega) (by rw [hal];omega)]
      go_simp
    have hH0:=Lib.holds_zero0 w 300 (Lib.nDigits u) (by omega)
    have hfmt:Calls Tryz.prog 302 _ _ _:=Any.internal_strconv_formatBase10 Tryz.lays285 w.heap.size 0 24 u (Array.replicate (Lib.nDigits u) 0) (w.alloc (.cells Lib.zeros24 300)) hH0 (by rw [Array.size_replicate];exact Lib.lt_pow_nDigits u) hu64 (by rw [Array.size_replicate];omega)
    rw [Array.size_replicate] at hfmt
    have hnd:∀w,G w→Calls Tryz.prog 301 #[.int .u64 u] w fun e w'=>e= .returned (.int .i64 (Lib.nDigits u))∧w'=w:=fun w hG=>by
      refine Any.internal_strconv_numDigits Tryz.laysM284 u hu1 hu64 w ?_
      unfold Lib.TabIs World.var?
      rw [show Tryz.prog.globalNamed _=some 5 by kernel_rfl]
      exact hG
    have hnd:=hnd _ (b1z w (w.alloc (.cells Lib.zeros24 300)) ((Below.refl _ w).alloc (Nat.le_refl _) _) hG)
    have HH0:=Lib.hid hH0
    clear hH0 hal hG
    go_enter Tryz.func292,Tryz.ntmps292
    go_wp2_with (go_at_call 301;refine hnd.mono ?_;rintro e w' ⟨rfl,rfl⟩)
    go_at_call 302
    refine hfmt.mono ?_
    rintro e w' ⟨rfl,k,v',dk,rfl,hF⟩
    have hcv:(convert 269 9 (.slice (some ⟨w.heap.size,0,none⟩) (Lib.nDigits u) 24)).run Tryz.prog ((putRow (fun (b:UInt8)=>Value.int .u8 (b.toNat:Int)) (w.alloc (.cells Lib.zeros24 300)) w.heap.size 0 dk).drewN k)= .ok (.string ⟨(Lib.decDigits u).toArray⟩) ((putRow (fun (b:UInt8)=>Value.int .u8 (b.toNat:Int)) (w.alloc (.cells Lib.zeros24 300)) w.heap.size 0 dk).drewN k):=by
      have h:=run_convert_bytes_back (P:=Tryz.prog) ((putRow (fun (b:UInt8)=>Value.int .u8 (b.toNat:Int)) (w.alloc (.cells Lib.zeros24 300)) w.heap.size 0 dk).drewN k) 269 9 5 ⟨w.heap.size,0,none⟩ 24 (Lib.decDigits u) t269 t5 t9 (fun j hj=>by
        rw [Lib.row_is_numeral hF j hj,Lib.add_plain,World.cell?_drewN]
        exact cell?_putRow (fun (b:UInt8)=>Value.int .u8 (b.toNat:Int)) _ w.heap.size 0 _ dk HH0.out (by rw [hF.size,Array.size_replicate]) j (by rw [hF.size];rw [Lib.decDigits_length] at hj;exact hj))
      rw [Lib.decDigits_length] at h
      exact h
    go_wp2
    go_ret
    exact ⟨rfl,hold0 _ _ _ _⟩
theorem c2z (u:Nat) (hu:u < 18446744073709551616):Ax.Pure Tryz.prog G 292 [U u,N 10] (S (bs (Lib.decDigits u))):=
  a4g ⟨_,Tryz.func292,by kernel_rfl,by kernel_rfl⟩ trivial (c88 _ rfl) fun w hG=>c4z u hu w hG
theorem d5g (s:ByteArray) (c:Nat) (hc:c≤9223372036854775807) (hlen:s.size*c≤140737488355328):Ax.Pure Tryz.prog G 282 [S s,N c] (S (bs (Lib.repeatL s.data.toList c))):=
  a4g ⟨_,Tryz.func282,by kernel_rfl,by kernel_rfl⟩ trivial (c88 _ rfl) fun w _=>
    (Any.strings_Repeat Tryz.lays105 Tryz.Builder_Extra_105 s c w hc hlen).mono fun _ _ ⟨h1,h2⟩=>⟨h1,h2⟩
end Go.Proofs
end
section
set_option maxHeartbeats 4000000
set_option maxRecDepth 100000
namespace Go.Proofs
open Go.Ax
theorem m6 (l:List UInt8):(bs l).size=l.length:=rfl
theorem a0k (l:List UInt8) (a b:Nat):(bs l).extract a b=bs ((l.drop a).take (b - a)):=by
  apply ByteArray.ext
  rw [ByteArray.data_extract]
  apply Array.ext'
  simp [List.take_drop]
theorem d7g {a b c a' b' c':AV} (h1:Ax.Sub a a') (h2:Ax.Sub b b') (h3:Ax.Sub c c'):Ax.Sub (.tup [a,b,c]) (.tup [a',b',c']):=by
  rintro E w v ⟨vs,rfl,v1,r1,rfl,g1,v2,r2,rfl,g2,v3,r3,rfl,g3,rfl⟩
  exact ⟨_,rfl,_,_,rfl,h1 _ _ _ g1,_,_,rfl,h2 _ _ _ g2,_,_,rfl,h3 _ _ _ g3,rfl⟩
theorem d1v (a b:List UInt8) (c:UInt8) (h:c∉a) (hl:(a++c :: b).length≤1000000):Ax.Pure Tryz.prog G 209 [S (bs (a++c :: b)),S ⟨#[c]⟩] (.tup [S (bs a),S (bs b),.one (.v (.bool true))]):=by
  have hi:Lib.indexByte (bs (a++c :: b)).data.toList c=a.length:=d2i h
  have c_I:=c5x (bs (a++c :: b)) c
  rw [hi] at c_I
  have hn:(bs (a++c :: b)).size=a.length+b.length+1:=by rw [m6,List.length_append,List.length_cons];omega
  have h1:(⟨#[c]⟩:ByteArray).size=1:=rfl
  rw [List.length_append,List.length_cons] at hl
  have w1:IntKind.i64.wrap ((a.length:Int)+((⟨#[c]⟩:ByteArray).size:Nat))=a.length+1:=by rw [IntKind.wrap_i64];omega
  refine r8 Tryz.func209 rfl Tryz.ntmps209 ?_
  intro w0 E0 hc
  repeat' (first|refine n7 hc Tryz.results209 ?_|(with_reducible first|exact trivial|refine j3 ?_ ?_|refine m8 (fun h=>?_)|refine c9 c_I ?_ ?_|fail)|(omega;done))
  refine d7g (j6 ?_) (j6 ?_) (Sub.refl _)
  · rw [a0k];simp
  · rw [w1,a0k,hn,show ((a.length:Int)+1).toNat=a.length+1 by omega];simp
theorem c72 (l:List UInt8) (c:UInt8) (h:c∉l):Ax.Pure Tryz.prog G 209 [S (bs l),S ⟨#[c]⟩] (.tup [S (bs l),S ⟨#[]⟩,.one (.v (.bool false))]):=by
  have hi:Lib.indexByte (bs l).data.toList c= -1:=c8l h
  have c_I:=c5x (bs l) c
  rw [hi] at c_I
  refine r8 Tryz.func209 rfl Tryz.ntmps209 ?_
  intro w0 E0 hc
  repeat' (first|refine n7 hc Tryz.results209 ?_|(with_reducible first|exact trivial|refine j3 ?_ ?_|refine m8 (fun h=>?_)|refine c9 c_I ?_ ?_|fail)|(omega;done))
theorem b9d (a b:List UInt8) (c:UInt8) (h:c∉a) (hl:(a++c :: b).length≤1000000):Ax.Pure Tryz.prog G 115 [S (bs (a++c :: b)),S ⟨#[c]⟩] (.tup [S (bs a),S (bs b),.one (.v (.bool true))]):=by
  refine r8 Tryz.func115 rfl Tryz.ntmps115 ?_
  intro w0 E0 hc
  repeat' (first|refine n7 hc Tryz.results115 ?_|(with_reducible first|exact trivial|refine j3 ?_ ?_|refine m8 (fun h=>?_)|refine c9 (d1v _ _ _ ?_ ?_) ?_ ?_|fail)|((first|exact h|exact hl);done))
theorem c1r (l:List UInt8) (c:UInt8) (h:c∉l):Ax.Pure Tryz.prog G 115 [S (bs l),S ⟨#[c]⟩] (.tup [S (bs l),S ⟨#[]⟩,.one (.v (.bool false))]):=by
  refine r8 Tryz.func115 rfl Tryz.ntmps115 ?_
  intro w0 E0 hc
  repeat' (first|refine n7 hc Tryz.results115 ?_|(with_reducible first|exact trivial|refine j3 ?_ ?_|refine m8 (fun h=>?_)|refine c9 (c72 _ _ ?_) ?_ ?_|fail)|(exact h;done))
theorem c2s {z:Int} {n:Nat} (h:z.natAbs < 10 ^ n):zl z≤n:=c00 (Nat.lt_of_lt_of_le h (Nat.pow_le_pow_left (by decide) n))
theorem c1w (neg:Bool) (l:List UInt8) (hd:isD l) (hl:l.length≤1000000):Ax.Pure Tryz.prog G 119 [S (bs (if neg then 45 :: l else l))] (n8 (if neg then -(n6 l:Int) else n6 l)):=by
  have c_H:=c5w (bs (if neg then 45 :: l else l)) (bs [45])
  have c_T:=b4q (bs (if neg then 45 :: l else l)) (bs [45])
  have e1:Lib.hasPrefix (bs (if neg then 45 :: l else l)).data.toList (bs [45]).data.toList=neg:=by
    cases neg
    · exact b2y hd
    · exact b2z l
  have e2:Lib.trimPrefix (bs (if neg then 45 :: l else l)).data.toList (bs [45]).data.toList=l:=by
    cases neg
    · exact b1x hd
    · exact a4w l
  rw [e1] at c_H
  rw [e2] at c_T
  generalize hs:bs (if neg then 45 :: l else l)=s at *
  refine r8 Tryz.func119 rfl Tryz.ntmps119 ?_
  intro w0 E0 hc
  repeat' (first|refine n7 hc Tryz.results119 ?_|(with_reducible first|exact trivial|refine j3 ?_ ?_|refine m8 (fun h=>?_)|refine c9 c_H ?_ ?_|refine c9 c_T ?_ ?_|fail)|(omega;done))
  refine m9 (α:=Nat) (fun i=>n5 [(0,S (bs (l.drop i))),(2,.one (.ptr 0 2 0 0)),(3,.one (.v (.bool neg))),(4,.one (.ptr 1 2 0 0))] [(0,⟨2,1,fun _=> [.int 0],false⟩),(1,⟨2,1,fun _=> [.int (n6 (l.take i))],false⟩)] 2)
    (fun i=>i≤l.length) (fun i=>l.length - i) 0 (Nat.zero_le _) ?_ ?_
  · refine zW1 ?_ <;> repeat' (with_reducible first|exact trivial|refine j3 ?_ ?_|refine t7 (fun i hi=>?_))
    · exact Sub.refl _
    · exact c0m (by decide) (by decide) (u4.refl _)
    · exact c0m (by decide) (by decide) (u4.refl _)
  · intro i hi
    have hsz:(bs (l.drop i)).size=l.length - i:=by rw [m6,List.length_drop]
    have hzi:zl (n6 (l.take i):Int)≤i:=c2s (by have:=a6l (b45 hd i);rw [List.length_take] at this;exact Nat.lt_of_lt_of_le this (Nat.pow_le_pow_right (by omega) (by omega)))
    have z10:zl 10≤1:=a4z (by decide)
    repeat' (first|(with_reducible first|refine j0 ?_|refine zwk ?_|refine i6 ?_|refine zgo ?_|refine zbn ?_|refine zge Tryz.results119 ?_|refine Sub.refl _|refine f9|refine w6 (out':=?_) ?_|refine u9 (y:=?_) ?_|refine w5 (eo':=?_) ?_)|(with_reducible refine zrs [6] hc ?_ ?_;focus (with_unfolding_all rfl))|(with_reducible refine zrm [6] hc mixed ?_ ?_;focus (with_unfolding_all rfl))|(with_reducible refine f6 ?_ ?_;focus (first|decide|omega))|(with_reducible first|refine zg2 ?_ ?_|refine c9 (c1v _ ?_) ?_ ?_|refine zbo ?_|refine zg3 ?_ (fun h=>?_) (fun h=>?_)|refine zg4 (fun h=>?_) (fun h=>?_)|fail)|(omega;done))
    · obtain ⟨k,hk,hk1,hk2,hk3⟩:∃k:Nat,(if ((bs (l.drop i)).size:Int) < 18 then ((bs (l.drop i)).size:Int) else 18)=(k:Nat)∧1≤k∧k≤18∧i+k≤l.length:=by
        split
        · exact ⟨_,rfl,by omega,by omega,by omega⟩
        · exact ⟨18,rfl,by omega,by omega,by omega⟩
      rw [hk]
      have hdk:isD ((l.drop i).take k):=b45 (c6k hd i) k
      have hlk:((l.drop i).take k).length=k:=by rw [List.length_take,List.length_drop];omega
      have hvk:=a6l hdk
      rw [hlk] at hvk
      have hvk18:n6 ((l.drop i).take k) < 10 ^ 18:=Nat.lt_of_lt_of_le hvk (Nat.pow_le_pow_right (by omega) hk2)
      have c_A:Ax.Pure Tryz.prog G 214 [S ((bs (l.drop i)).extract 0 k)] (.tup [N (n6 ((l.drop i).take k)),.one (.v .nilIface)]):=by
        rw [a0k,List.drop_zero,Nat.sub_zero]
        exact e08 _ _ (by rw [m6,hlk];exact hk2) (d4a hdk (by intro e;have e':=congrArg List.length e;simp only [List.length_nil] at e';omega))
      have zv:zl (n6 ((l.drop i).take k):Int)≤1:=a4z (Nat.lt_trans hvk18 (by decide))
      have hp:zl ((10:Int) ^ k)≤k+1:=c2s (by rw [Int.natAbs_pow];exact Nat.pow_lt_pow_right (by decide) (Nat.lt_succ_self k))
      have hm:=a2s (n6 (l.take i):Int) ((10:Int) ^ k)
      have e1:n6 (l.take (i+k))=n6 (l.take i)*10 ^ k+n6 ((l.drop i).take k):=by
        rw [List.take_add,a5z,hlk]
      have hkz:k*zl 10≤1000000000:=by have:=Nat.mul_le_mul_left k z10;omega
      repeat' (first|refine n7 hc Tryz.results119 ?_|(with_reducible first|exact trivial|refine j3 ?_ ?_|refine m8 (fun h=>?_)|refine c9 c_A ?_ ?_|refine c9 (b4p _ ?_ ?_) ?_ ?_|refine c9 (d91 _ _ ?_ ?_) ?_ ?_|refine c9 (c1u _ _ ?_ ?_) ?_ ?_|refine c9 (b9b _ _ ?_ ?_) ?_ ?_|fail)|((first|omega|exact hkz);done))
      refine ⟨i+k,hk3,by omega,?_⟩
      refine zW1 ?_ <;> repeat' (with_reducible first|exact trivial|refine j3 ?_ ?_|refine t7 (fun i hi=>?_))
      · refine j6 ?_
        rw [a0k,List.drop_drop,List.take_of_length_le]
        rw [List.length_drop,hsz];omega
      · rw [if_pos rfl]
        exact a9o (by rw [e1,Int.natCast_add,Int.natCast_mul,Int.natCast_pow];rfl) (u4.refl _)
    all_goals
      have hil:i=l.length:=by omega
      subst hil
      rw [List.take_length]
      cases neg <;> first|exact Sub.refl _|contradiction
theorem b9g (l:List UInt8) (hd:isD l) (hl:l.length≤1000000):Ax.Pure Tryz.prog G 119 [S (bs l)] (n8 (n6 l)):=c1w false l hd hl
end Go.Proofs
end
