/- The functions of the library keep their contracts. Condition: WOk. -/
import Derived.Shelf.Strings.Prefix
import Derived.Shelf.Strings.Cut
import Derived.Shelf.Strings.Split
import Derived.Shelf.Strings.OnBuilder
import Derived.Shelf.Strconv.Itoa3
import Derived.Shelf.SlicesE.Clone
import Derived.Shelf.Strconv.AtoiAll
import Derived.Shelf.Strings.Repeat
import Derived.Shelf.Strings.BuilderF
import Derived.Deep.RegionLaw
import Derived.Shelf.Spec.TrailingZeros
import Derived.Lib.ItoaMem
import Derived.Shelf.Spec.SlicesInsertGrow
import Derived.Lib.AppendZerosOnto
import Derived.Test.YtfnlbejcgjlclaaGreatDoorD
set_option linter.all false
namespace Go.Proofs
open Go.Shelf Tryz
theorem dK{a b:Func}(h:a=b):some a=some b:=congrArg some h
def Tryz.ZV:Go.Shelf.Ren:=⟨λ|99=>97|206=>144|n=>n,λ|9=>9|4=>4|3=>3|n=>n,λ|n=>n⟩
theorem Tryz.ae9:Go.Proofs.Lays.n99 Tryz.prog Tryz.ZV:={
 mixed:=by kernel_rfl
 f99:=func97.trans (dK (by kernel_rfl))
 f206:=func144.trans (dK (by kernel_rfl))
 t3:=underlying3
 a3:=isAgg3
 z3:=sizeOf3
 v3:=zeroValue3
 t4:=underlying4
 a4:=isAgg4
 z4:=sizeOf4
 v4:=zeroValue4
 t9:=underlying9
 a9:=isAgg9
 z9:=sizeOf9
 v9:=zeroValue9}
def Tryz.Zt:Go.Shelf.Ren:=⟨λ|145=>94|220=>141|219=>173|217=>213|225=>214|224=>215|267=>216|266=>257|314=>258|n=>n,λ|9=>9|4=>4|59=>114|3=>3|5=>5|46=>223|146=>258|51=>189|n=>n,λ|1=>1|n=>n⟩
theorem Tryz.ad1:Go.Proofs.Lays.n145 Tryz.prog Tryz.Zt:={
 mixed:=by kernel_rfl
 f145:=func94.trans (dK (by kernel_rfl))
 f217:=func213.trans (dK (by kernel_rfl))
 f219:=func173.trans (dK (by kernel_rfl))
 f220:=func141.trans (dK (by kernel_rfl))
 f224:=func215.trans (dK (by kernel_rfl))
 f225:=func214.trans (dK (by kernel_rfl))
 f266:=func257.trans (dK (by kernel_rfl))
 f267:=func216.trans (dK (by kernel_rfl))
 f314:=func258.trans (dK (by kernel_rfl))
 t3:=underlying3
 a3:=isAgg3
 z3:=sizeOf3
 v3:=zeroValue3
 t4:=underlying4
 a4:=isAgg4
 z4:=sizeOf4
 v4:=zeroValue4
 t5:=underlying5
 a5:=isAgg5
 z5:=sizeOf5
 v5:=zeroValue5
 t9:=underlying9
 a9:=isAgg9
 z9:=sizeOf9
 v9:=zeroValue9
 t46:=underlying223
 a46:=isAgg223
 z46:=sizeOf223
 v46:=zeroValue223
 t51:=underlying189
 a51:=isAgg189
 z51:=sizeOf189
 v51:=zeroValue189
 t59:=underlying114
 a59:=isAgg114
 z59:=sizeOf114
 v59:=zeroValue114
 t146:=underlying258
 a146:=isAgg258
 z146:=sizeOf258
 v146:=zeroValue258
 g1:=by kernel_rfl}
def Tryz.HB:Go.Shelf.Ren:=⟨λ|146=>100|221=>147|268=>183|138=>184|143=>185|195=>226|197=>227|218=>228|219=>173|260=>265|217=>213|225=>214|224=>215|267=>216|266=>257|314=>258|n=>n,λ|9=>9|31=>81|3=>3|4=>4|0=>0|105=>235|21=>21|5=>5|46=>223|119=>296|139=>299|138=>298|146=>258|51=>189|n=>n,λ|1=>1|3=>6|4=>7|n=>n⟩
theorem Tryz.ad2:Go.Proofs.Lays.n146 Tryz.prog Tryz.HB:={
 mixed:=by kernel_rfl
 f138:=func184.trans (dK (by kernel_rfl))
 f143:=func185.trans (dK (by kernel_rfl))
 f146:=func100.trans (dK (by kernel_rfl))
 f195:=func226.trans (dK (by kernel_rfl))
 f197:=func227.trans (dK (by kernel_rfl))
 f217:=func213.trans (dK (by kernel_rfl))
 f218:=func228.trans (dK (by kernel_rfl))
 f219:=func173.trans (dK (by kernel_rfl))
 f221:=func147.trans (dK (by kernel_rfl))
 f224:=func215.trans (dK (by kernel_rfl))
 f225:=func214.trans (dK (by kernel_rfl))
 f260:=func265.trans (dK (by kernel_rfl))
 f266:=func257.trans (dK (by kernel_rfl))
 f267:=func216.trans (dK (by kernel_rfl))
 f268:=func183.trans (dK (by kernel_rfl))
 f314:=func258.trans (dK (by kernel_rfl))
 t0:=underlying0
 a0:=isAgg0
 z0:=sizeOf0
 v0:=zeroValue0
 t3:=underlying3
 a3:=isAgg3
 z3:=sizeOf3
 v3:=zeroValue3
 t4:=underlying4
 a4:=isAgg4
 z4:=sizeOf4
 v4:=zeroValue4
 t5:=underlying5
 a5:=isAgg5
 z5:=sizeOf5
 v5:=zeroValue5
 t9:=underlying9
 a9:=isAgg9
 z9:=sizeOf9
 v9:=zeroValue9
 t21:=underlying21
 a21:=isAgg21
 z21:=sizeOf21
 v21:=zeroValue21
 t31:=underlying81
 a31:=isAgg81
 z31:=sizeOf81
 v31:=zeroValue81
 t46:=underlying223
 a46:=isAgg223
 z46:=sizeOf223
 v46:=zeroValue223
 t51:=underlying189
 a51:=isAgg189
 z51:=sizeOf189
 v51:=zeroValue189
 t105:=underlying235
 a105:=isAgg235
 z105:=sizeOf235
 v105:=zeroValue235
 t119:=underlying296
 a119:=isAgg296
 z119:=sizeOf296
 t138:=underlying298
 a138:=isAgg298
 z138:=sizeOf298
 v138:=zeroValue298
 t139:=underlying299
 a139:=isAgg299
 z139:=sizeOf299
 v139:=zeroValue299
 t146:=underlying258
 a146:=isAgg258
 z146:=sizeOf258
 v146:=zeroValue258
 g1:=by kernel_rfl
 g3:=by kernel_rfl
 g4:=by kernel_rfl}
def Tryz.QS:Go.Shelf.Ren:=⟨λ|156=>133|165=>169|166=>170|169=>171|240=>211|241=>212|276=>255|277=>256|n=>n,λ|31=>81|9=>9|3=>3|4=>4|0=>0|20=>20|72=>181|76=>151|70=>179|37=>22|75=>150|127=>221|164=>255|5=>5|80=>183|n=>n,λ|n=>n⟩
theorem Tryz.B8:Go.Proofs.Lays.n156 Tryz.prog Tryz.QS:={
 mixed:=by kernel_rfl
 f156:=func133.trans (dK (by kernel_rfl))
 f165:=func169.trans (dK (by kernel_rfl))
 f166:=func170.trans (dK (by kernel_rfl))
 f169:=func171.trans (dK (by kernel_rfl))
 f240:=func211.trans (dK (by kernel_rfl))
 f241:=func212.trans (dK (by kernel_rfl))
 f276:=func255.trans (dK (by kernel_rfl))
 f277:=func256.trans (dK (by kernel_rfl))
 t0:=underlying0
 a0:=isAgg0
 z0:=sizeOf0
 v0:=zeroValue0
 t3:=underlying3
 a3:=isAgg3
 z3:=sizeOf3
 v3:=zeroValue3
 t4:=underlying4
 a4:=isAgg4
 z4:=sizeOf4
 v4:=zeroValue4
 t9:=underlying9
 a9:=isAgg9
 z9:=sizeOf9
 v9:=zeroValue9
 t20:=underlying20
 a20:=isAgg20
 z20:=sizeOf20
 v20:=zeroValue20
 t31:=underlying81
 a31:=isAgg81
 z31:=sizeOf81
 v31:=zeroValue81
 t37:=underlying22
 a37:=isAgg22
 z37:=sizeOf22
 v37:=zeroValue22
 t70:=underlying179
 a70:=isAgg179
 z70:=sizeOf179
 v70:=zeroValue179
 t72:=underlying181
 a72:=isAgg181
 z72:=sizeOf181
 v72:=zeroValue181
 t75:=underlying150
 a75:=isAgg150
 z75:=sizeOf150
 v75:=zeroValue150
 t76:=underlying151
 a76:=isAgg151
 z76:=sizeOf151
 v76:=zeroValue151
 t127:=underlying221
 a127:=isAgg221
 z127:=sizeOf221
 v127:=zeroValue221
 t164:=underlying255
 a164:=isAgg255
 z164:=sizeOf255
 v164:=zeroValue255}
def Tryz.Zu:Go.Shelf.Ren:=⟨λ|171=>81|243=>129|246=>167|283=>206|284=>207|285=>208|286=>209|129=>251|317=>250|318=>252|319=>253|320=>254|337=>285|338=>286|n=>n,λ|3=>3|9=>9|2=>2|4=>4|171=>215|0=>0|53=>187|37=>22|5=>5|173=>218|212=>252|51=>189|20=>20|213=>253|46=>223|232=>316|233=>317|n=>n,λ|17=>3|18=>8|19=>9|n=>n⟩
theorem Tryz.ad3:Go.Proofs.LaysM.n171 Tryz.prog Tryz.Zu:={
 mixed:=by kernel_rfl
 f129:=func251.trans (dK (by kernel_rfl))
 f171:=func81.trans (dK (by kernel_rfl))
 f243:=func129.trans (dK (by kernel_rfl))
 f246:=func167.trans (dK (by kernel_rfl))
 f283:=func206.trans (dK (by kernel_rfl))
 f284:=func207.trans (dK (by kernel_rfl))
 f285:=func208.trans (dK (by kernel_rfl))
 f286:=func209.trans (dK (by kernel_rfl))
 f317:=func250.trans (dK (by kernel_rfl))
 f318:=func252.trans (dK (by kernel_rfl))
 f319:=func253.trans (dK (by kernel_rfl))
 f320:=func254.trans (dK (by kernel_rfl))
 f337:=func285.trans (dK (by kernel_rfl))
 f338:=func286.trans (dK (by kernel_rfl))
 t0:=underlying0
 a0:=isAgg0
 z0:=sizeOf0
 v0:=zeroValue0
 t2:=underlying2
 a2:=isAgg2
 z2:=sizeOf2
 v2:=zeroValue2
 t3:=underlying3
 a3:=isAgg3
 z3:=sizeOf3
 v3:=zeroValue3
 t4:=underlying4
 a4:=isAgg4
 z4:=sizeOf4
 v4:=zeroValue4
 t5:=underlying5
 a5:=isAgg5
 z5:=sizeOf5
 v5:=zeroValue5
 t9:=underlying9
 a9:=isAgg9
 z9:=sizeOf9
 v9:=zeroValue9
 t20:=underlying20
 a20:=isAgg20
 z20:=sizeOf20
 v20:=zeroValue20
 t37:=underlying22
 a37:=isAgg22
 z37:=sizeOf22
 v37:=zeroValue22
 t46:=underlying223
 a46:=isAgg223
 z46:=sizeOf223
 v46:=zeroValue223
 t51:=underlying189
 a51:=isAgg189
 z51:=sizeOf189
 v51:=zeroValue189
 t53:=underlying187
 a53:=isAgg187
 z53:=sizeOf187
 v53:=zeroValue187
 t171:=underlying215
 a171:=isAgg215
 z171:=sizeOf215
 v171:=zeroValue215
 t173:=underlying218
 a173:=isAgg218
 z173:=sizeOf218
 v173:=zeroValue218
 t212:=underlying252
 a212:=isAgg252
 z212:=sizeOf252
 v212:=zeroValue252
 t213:=underlying253
 a213:=isAgg253
 z213:=sizeOf253
 t232:=underlying316
 a232:=isAgg316
 z232:=sizeOf316
 v232:=zeroValue316
 t233:=underlying317
 a233:=isAgg317
 z233:=sizeOf317
 v233:=zeroValue317
 g17:=by kernel_rfl
 g18:=by kernel_rfl
 g19:=by kernel_rfl
 i0:=by kernel_rfl
 i2:=by kernel_rfl
 i3:=by kernel_rfl
 i4:=by kernel_rfl
 i5:=by kernel_rfl
 i9:=by kernel_rfl
 i20:=by kernel_rfl
 i37:=by kernel_rfl
 i46:=by kernel_rfl
 i51:=by kernel_rfl
 i53:=by kernel_rfl
 i171:=by kernel_rfl
 i173:=by kernel_rfl
 i212:=by kernel_rfl
 i232:=by kernel_rfl
 i233:=by kernel_rfl
 m17:=by kernel_rfl
 m18:=by kernel_rfl
 m19:=by kernel_rfl}
def Tryz.Zw:Go.Shelf.Ren:=⟨λ|172=>142|244=>174|245=>175|247=>217|279=>218|280=>219|281=>220|282=>221|287=>259|316=>260|171=>81|205=>261|321=>287|322=>288|243=>129|246=>167|283=>206|284=>207|285=>208|286=>209|129=>251|317=>250|318=>252|319=>253|320=>254|337=>285|338=>286|n=>n,λ|9=>9|3=>3|75=>150|76=>151|4=>4|5=>5|167=>224|37=>22|0=>0|85=>225|2=>2|168=>227|53=>187|175=>260|46=>223|210=>263|127=>221|145=>295|143=>293|21=>21|171=>215|173=>218|212=>252|51=>189|20=>20|213=>253|232=>316|233=>317|80=>183|n=>n,λ|15=>4|16=>5|17=>3|18=>8|19=>9|n=>n⟩
theorem Tryz.Of:Go.Proofs.LaysC.n172 Tryz.prog Tryz.Zw:={
 mixed:=by kernel_rfl
 f129:=func251.trans (dK (by kernel_rfl))
 f171:=func81.trans (dK (by kernel_rfl))
 f172:=func142.trans (dK (by kernel_rfl))
 f205:=func261.trans (dK (by kernel_rfl))
 f243:=func129.trans (dK (by kernel_rfl))
 f244:=func174.trans (dK (by kernel_rfl))
 f245:=func175.trans (dK (by kernel_rfl))
 f246:=func167.trans (dK (by kernel_rfl))
 f247:=func217.trans (dK (by kernel_rfl))
 f279:=func218.trans (dK (by kernel_rfl))
 f280:=func219.trans (dK (by kernel_rfl))
 f281:=func220.trans (dK (by kernel_rfl))
 f282:=func221.trans (dK (by kernel_rfl))
 f283:=func206.trans (dK (by kernel_rfl))
 f284:=func207.trans (dK (by kernel_rfl))
 f285:=func208.trans (dK (by kernel_rfl))
 f286:=func209.trans (dK (by kernel_rfl))
 f287:=func259.trans (dK (by kernel_rfl))
 f316:=func260.trans (dK (by kernel_rfl))
 f317:=func250.trans (dK (by kernel_rfl))
 f318:=func252.trans (dK (by kernel_rfl))
 f319:=func253.trans (dK (by kernel_rfl))
 f320:=func254.trans (dK (by kernel_rfl))
 f321:=func287.trans (dK (by kernel_rfl))
 f322:=func288.trans (dK (by kernel_rfl))
 f337:=func285.trans (dK (by kernel_rfl))
 f338:=func286.trans (dK (by kernel_rfl))
 t0:=underlying0
 a0:=isAgg0
 z0:=sizeOf0
 v0:=zeroValue0
 t2:=underlying2
 a2:=isAgg2
 z2:=sizeOf2
 v2:=zeroValue2
 t3:=underlying3
 a3:=isAgg3
 z3:=sizeOf3
 v3:=zeroValue3
 t4:=underlying4
 a4:=isAgg4
 z4:=sizeOf4
 v4:=zeroValue4
 t5:=underlying5
 a5:=isAgg5
 z5:=sizeOf5
 v5:=zeroValue5
 t9:=underlying9
 a9:=isAgg9
 z9:=sizeOf9
 v9:=zeroValue9
 t20:=underlying20
 a20:=isAgg20
 z20:=sizeOf20
 v20:=zeroValue20
 t21:=underlying21
 a21:=isAgg21
 z21:=sizeOf21
 v21:=zeroValue21
 t37:=underlying22
 a37:=isAgg22
 z37:=sizeOf22
 v37:=zeroValue22
 t46:=underlying223
 a46:=isAgg223
 z46:=sizeOf223
 v46:=zeroValue223
 t51:=underlying189
 a51:=isAgg189
 z51:=sizeOf189
 v51:=zeroValue189
 t53:=underlying187
 a53:=isAgg187
 z53:=sizeOf187
 v53:=zeroValue187
 t75:=underlying150
 a75:=isAgg150
 z75:=sizeOf150
 v75:=zeroValue150
 t76:=underlying151
 a76:=isAgg151
 z76:=sizeOf151
 v76:=zeroValue151
 t85:=underlying225
 a85:=isAgg225
 z85:=sizeOf225
 v85:=zeroValue225
 t127:=underlying221
 a127:=isAgg221
 z127:=sizeOf221
 v127:=zeroValue221
 t143:=underlying293
 a143:=isAgg293
 z143:=sizeOf293
 v143:=zeroValue293
 t145:=underlying295
 a145:=isAgg295
 z145:=sizeOf295
 v145:=zeroValue295
 t167:=underlying224
 a167:=isAgg224
 z167:=sizeOf224
 v167:=zeroValue224
 t168:=underlying227
 a168:=isAgg227
 z168:=sizeOf227
 v168:=zeroValue227
 t171:=underlying215
 a171:=isAgg215
 z171:=sizeOf215
 v171:=zeroValue215
 t173:=underlying218
 a173:=isAgg218
 z173:=sizeOf218
 v173:=zeroValue218
 t175:=underlying260
 a175:=isAgg260
 z175:=sizeOf260
 v175:=zeroValue260
 t210:=underlying263
 a210:=isAgg263
 z210:=sizeOf263
 v210:=zeroValue263
 t212:=underlying252
 a212:=isAgg252
 z212:=sizeOf252
 v212:=zeroValue252
 t213:=underlying253
 a213:=isAgg253
 z213:=sizeOf253
 t232:=underlying316
 a232:=isAgg316
 z232:=sizeOf316
 v232:=zeroValue316
 t233:=underlying317
 a233:=isAgg317
 z233:=sizeOf317
 v233:=zeroValue317
 g15:=by kernel_rfl
 g16:=by kernel_rfl
 g17:=by kernel_rfl
 g18:=by kernel_rfl
 g19:=by kernel_rfl
 t80:=underlying183
 a80:=isAgg183
 z80:=sizeOf183
 v80:=zeroValue183
 i0:=by kernel_rfl
 i2:=by kernel_rfl
 i3:=by kernel_rfl
 i4:=by kernel_rfl
 i5:=by kernel_rfl
 i9:=by kernel_rfl
 i20:=by kernel_rfl
 i21:=by kernel_rfl
 i37:=by kernel_rfl
 i46:=by kernel_rfl
 i51:=by kernel_rfl
 i53:=by kernel_rfl
 i75:=by kernel_rfl
 i76:=by kernel_rfl
 i80:=by kernel_rfl
 i85:=by kernel_rfl
 i127:=by kernel_rfl
 i143:=by kernel_rfl
 i145:=by kernel_rfl
 i167:=by kernel_rfl
 i168:=by kernel_rfl
 i171:=by kernel_rfl
 i173:=by kernel_rfl
 i175:=by kernel_rfl
 i210:=by kernel_rfl
 i212:=by kernel_rfl
 i232:=by kernel_rfl
 i233:=by kernel_rfl
 m15:=by kernel_rfl
 m16:=by kernel_rfl
 m17:=by kernel_rfl
 m18:=by kernel_rfl
 m19:=by kernel_rfl
 c0:=by kernel_rfl
 c2:=by kernel_rfl
 c3:=by kernel_rfl
 c4:=by kernel_rfl
 c5:=by kernel_rfl
 c9:=by kernel_rfl
 c20:=by kernel_rfl
 c21:=by kernel_rfl
 c37:=by kernel_rfl
 c46:=by kernel_rfl
 c51:=by kernel_rfl
 c53:=by kernel_rfl
 c75:=by kernel_rfl
 c76:=by kernel_rfl
 c80:=by kernel_rfl
 c85:=by kernel_rfl
 c127:=by kernel_rfl
 c143:=by kernel_rfl
 c145:=by kernel_rfl
 c167:=by kernel_rfl
 c168:=by kernel_rfl
 c171:=by kernel_rfl
 c173:=by kernel_rfl
 c175:=by kernel_rfl
 c210:=by kernel_rfl
 c212:=by kernel_rfl
 c213:=by kernel_rfl
 c232:=by kernel_rfl
 c233:=by kernel_rfl}
def Tryz.QT:Go.Shelf.Ren:=⟨λ|105=>176|212=>222|99=>97|165=>169|166=>170|170=>223|169=>171|263=>262|264=>263|206=>144|240=>211|241=>212|276=>255|277=>256|n=>n,λ|9=>9|3=>3|4=>4|20=>20|0=>0|46=>223|109=>230|5=>5|72=>181|76=>151|51=>189|146=>258|53=>187|148=>266|70=>179|37=>22|75=>150|127=>221|164=>255|80=>183|n=>n,λ|n=>n⟩
theorem Tryz.ad4:Go.Proofs.Lays.n105 Tryz.prog Tryz.QT:={
 mixed:=by kernel_rfl
 f99:=func97.trans (dK (by kernel_rfl))
 f105:=func176.trans (dK (by kernel_rfl))
 f165:=func169.trans (dK (by kernel_rfl))
 f166:=func170.trans (dK (by kernel_rfl))
 f169:=func171.trans (dK (by kernel_rfl))
 f170:=func223.trans (dK (by kernel_rfl))
 f206:=func144.trans (dK (by kernel_rfl))
 f212:=func222.trans (dK (by kernel_rfl))
 f240:=func211.trans (dK (by kernel_rfl))
 f241:=func212.trans (dK (by kernel_rfl))
 f263:=func262.trans (dK (by kernel_rfl))
 f264:=func263.trans (dK (by kernel_rfl))
 f276:=func255.trans (dK (by kernel_rfl))
 f277:=func256.trans (dK (by kernel_rfl))
 t0:=underlying0
 a0:=isAgg0
 z0:=sizeOf0
 v0:=zeroValue0
 t3:=underlying3
 a3:=isAgg3
 z3:=sizeOf3
 v3:=zeroValue3
 t4:=underlying4
 a4:=isAgg4
 z4:=sizeOf4
 v4:=zeroValue4
 t5:=underlying5
 a5:=isAgg5
 z5:=sizeOf5
 v5:=zeroValue5
 t9:=underlying9
 a9:=isAgg9
 z9:=sizeOf9
 v9:=zeroValue9
 t20:=underlying20
 a20:=isAgg20
 z20:=sizeOf20
 v20:=zeroValue20
 t37:=underlying22
 a37:=isAgg22
 z37:=sizeOf22
 v37:=zeroValue22
 t46:=underlying223
 a46:=isAgg223
 z46:=sizeOf223
 v46:=zeroValue223
 t51:=underlying189
 a51:=isAgg189
 z51:=sizeOf189
 v51:=zeroValue189
 t53:=underlying187
 a53:=isAgg187
 z53:=sizeOf187
 v53:=zeroValue187
 t70:=underlying179
 a70:=isAgg179
 z70:=sizeOf179
 v70:=zeroValue179
 t72:=underlying181
 a72:=isAgg181
 z72:=sizeOf181
 v72:=zeroValue181
 t75:=underlying150
 a75:=isAgg150
 z75:=sizeOf150
 v75:=zeroValue150
 t76:=underlying151
 a76:=isAgg151
 z76:=sizeOf151
 v76:=zeroValue151
 t109:=underlying230
 a109:=isAgg230
 z109:=sizeOf230
 v109:=zeroValue230
 t127:=underlying221
 a127:=isAgg221
 z127:=sizeOf221
 v127:=zeroValue221
 t146:=underlying258
 a146:=isAgg258
 z146:=sizeOf258
 v146:=zeroValue258
 t148:=underlying266
 a148:=isAgg266
 z148:=sizeOf266
 v148:=zeroValue266
 t164:=underlying255
 a164:=isAgg255
 z164:=sizeOf255
 v164:=zeroValue255}
def Tryz.Qz:Go.Shelf.Ren:=⟨λ|41=>180|n=>n,λ|22=>45|23=>3|4=>4|n=>n,λ|n=>n⟩
theorem Tryz.ab7:Go.Proofs.SlLaysE0.n41 Tryz.prog Tryz.Qz:={
 mixed:=by kernel_rfl
 f41:=⟨Tryz.f180.name,by decide,func180.trans (dK (by kernel_rfl))⟩
 t4:=underlying4
 a4:=isAgg4
 z4:=sizeOf4
 v4:=zeroValue4
 t22:=underlying45
 a22:=isAgg45
 z22:=sizeOf45
 v22:=zeroValue45}
def Tryz.QA:Go.Shelf.Ren:=⟨λ|41=>182|n=>n,λ|22=>46|23=>50|4=>4|n=>n,λ|n=>n⟩
theorem Tryz.ab8:Go.Proofs.SlLaysE0.n41 Tryz.prog Tryz.QA:={
 mixed:=by kernel_rfl
 f41:=⟨Tryz.f182.name,by decide,func182.trans (dK (by kernel_rfl))⟩
 t4:=underlying4
 a4:=isAgg4
 z4:=sizeOf4
 v4:=zeroValue4
 t22:=underlying46
 a22:=isAgg46
 z22:=sizeOf46
 v22:=zeroValue46}
def Tryz.QB:Go.Shelf.Ren:=⟨λ|41=>124|n=>n,λ|22=>24|23=>34|4=>4|n=>n,λ|n=>n⟩
theorem Tryz.ab9:Go.Proofs.SlLaysE0.n41 Tryz.prog Tryz.QB:={
 mixed:=by kernel_rfl
 f41:=⟨Tryz.f124.name,by decide,func124.trans (dK (by kernel_rfl))⟩
 t4:=underlying4
 a4:=isAgg4
 z4:=sizeOf4
 v4:=zeroValue4
 t22:=underlying24
 a22:=isAgg24
 z22:=sizeOf24
 v22:=zeroValue24}
def Tryz.QC:Go.Shelf.Ren:=⟨λ|41=>126|n=>n,λ|22=>32|23=>77|4=>4|n=>n,λ|n=>n⟩
theorem Tryz.aca:Go.Proofs.SlLaysE0.n41 Tryz.prog Tryz.QC:={
 mixed:=by kernel_rfl
 f41:=⟨Tryz.f126.name,by decide,func126.trans (dK (by kernel_rfl))⟩
 t4:=underlying4
 a4:=isAgg4
 z4:=sizeOf4
 v4:=zeroValue4
 t22:=underlying32
 a22:=isAgg32
 z22:=sizeOf32
 v22:=zeroValue32}
theorem Tryz.BS:Builder.Extra Tryz.prog Tryz.QS where
 sizeBuilder:=by kernel_rfl
 liesBuilder:=by kernel_rfl
 t5:=underlying5
 a5:=isAgg5
 z5:=sizeOf5
 v5:=zeroValue5
 infoByte:=by kernel_rfl
 cellsByte:=by kernel_rfl
 sizeByte:=by kernel_rfl
 neB5:=by decide
theorem Tryz.acb:Builder.Extra Tryz.prog Tryz.QT where
 sizeBuilder:=by kernel_rfl
 liesBuilder:=by kernel_rfl
 t5:=underlying5
 a5:=isAgg5
 z5:=sizeOf5
 v5:=zeroValue5
 infoByte:=by kernel_rfl
 cellsByte:=by kernel_rfl
 sizeByte:=by kernel_rfl
 neB5:=by decide
end Go.Proofs
namespace Go.Sd
open Go Go.RowKit
open Go.Ev hiding World Event Rd
open Go.Proofs hiding Enters
section
structure ov(W:World):Prop where
 sz:10<=W.heap.size
 mx:∃m,W.cell? ⟨1,0,none⟩=some (.int .i64 m)
 pow:Lib.TabIs Tryz.prog W "internal/strconv.uint64pow10" .u64 Lib.pow10Tab
 e4:∃te pe,W.cell? ⟨4,0,none⟩=some (.iface te pe)
 e5:∃te pe,W.cell? ⟨5,0,none⟩=some (.iface te pe)
 tz:W.cell? ⟨9,15,none⟩=some (.int .u8 4)
variable{W:World}{γ:Nat->G}{w w':World}
theorem PG(hW:ov W)(a:zw sa (tM W) γ w){i:Nat}(j:i<10):γ i=.im/\w.heap[i]?=W.heap[i]?:=by
 have y:=hW.sz;have e:tM W i=some W.heap[i]:=by
  unfold tM
  have:Nat.blt i 10=true:=by simpa[sB] using j
  rw[this,cL,ju (by omega)]
 obtain⟨u,x⟩:=a.2 i _ e;exact⟨u,by rw[x,ju (by omega)]⟩
theorem rn{X:Rt->dh->Prop}(j:∀b,w.heap.size<=b->γ b=.fr)(h:Below w.heap.size w w')(e:∀b,γ b≠.fr->b<w.heap.size):dA X γ w γ w' where
 im:=λb a=>⟨a,h.block b (e b (by rw[a];simp))⟩
 at':=λb q p a _=>⟨a,h.block b (e b (by rw[a];simp))⟩
 fr:=λb a u=>⟨u,h.block b a⟩
 size:=h.size
 new:=λb a=>j b (zO h.size a)
 tape:=h.tape
 os:=h.os
 output:=h.output
theorem kU(a:∀b,w.heap.size<=b->γ b=.fr):∀b,γ b≠.fr->b<w.heap.size:=λb e=>Db λh=>e (a b h)
theorem sX{c:Rc}{i:Nat}{a v:Value}{x:cq}(h:qS c i a (.val (.el .str [])) x v):v=.string ⟨⟨x⟩⟩:=by
 have h:Rd c (some (.cC i,[])) (.s x) v:=h;cases h;rfl
theorem y5{k:IntKind}{c:Rc}{i:Nat}{a v:Value}{x:Int}(h:qS c i a (.val (.el (.int k) [])) x v):v=.int k x:=by
 have h:Rd c (some (.cC i,[])) (.i k x) v:=h;cases h;rfl
theorem enters{f:Nat}{a:Func}(u:Tryz.prog.funcs[f]?=some a)(j:(a.body.isSome&&!(a.name== "runtime.NumGoroutine"))=true):Enters Tryz.prog f:=by
 simp only[du] at j;refine⟨a,u,λe=>?_,?_⟩
 ·rw[e] at j;simp at j
 ·cases y:a.body with
  |none=>rw[y] at j;simp at j
  |some x=>rfl
variable(W)
theorem k97(n:Nat):kO W 97 (Xw n):=by
 refine⟨enters Tryz.func97 (by kernel_rfl),λγ w a C x y A I u j=>?_⟩;obtain⟨s,p,_⟩:=x
 match a,u with
 |[J,M],u=>
  obtain⟨D,E,N⟩:=u;obtain rfl:=sX D;obtain rfl:=sX E;have j:some (Lib.hasPrefix s p)=some y:=j;injection j with j;subst j;have F:=Any.strings_HasPrefix Tryz.ae9 ⟨⟨s⟩⟩ ⟨⟨p⟩⟩ w;refine Calls.mono F λe w' H=>?_;obtain⟨rfl,rfl⟩:=H;exact⟨_,γ,rfl,rn A (Below.refl _ _) (kU A),Rd.b _ _,trivial,trivial,trivial⟩
variable{W}
theorem R4{w w':World}{b:Nat}{j:Int}(h:w.heap[b]?=w'.heap[b]?)(k:Nat):w.cell? ⟨b,k,none⟩=w'.cell? ⟨b,k,none⟩:=by
 unfold World.cell?;simp only[h]
theorem IV(hW:ov W)(a:zw sa (tM W) γ w){i:Nat}(e:i<10):w.cell? ⟨i,0,none⟩=W.cell? ⟨i,0,none⟩:=R4 (j:=0) (PG hW a e).2 0
theorem acd(hW:ov W)(j:zw sa (tM W) γ w):Lib.TabIs Tryz.prog w "internal/strconv.uint64pow10" .u64 Lib.pow10Tab:=by
 have a:=hW.pow;unfold Lib.TabIs World.var? at a⊢;have e:Tryz.prog.globalNamed "internal/strconv.uint64pow10" =some 3:=by kernel_rfl
 rw[e] at a⊢;simp only[pC] at a⊢;rw[(PG hW j (show 3<10 by omega)).2];exact a
theorem Zx(B:Nat)(w:World)(n:Nat):Below B w (w.drewN n):=⟨rfl,rfl,rfl,hY _,λ_ _=>rfl⟩
theorem Rm(w:World)(n:Nat)(a:Array Obj):Below w.heap.size w (Sort.grow (w.drewN n) a):=⟨rfl,rfl,rfl,by show _<=(w.heap++a).size;simp,λk e=>by
 show(w.heap++a)[k]?=_
 rw[P0 e]⟩
theorem Zy(w:World)(e:TypeId)(s:ByteArray):Below w.heap.size w (Lib.bytesWorld w e s):=⟨rfl,rfl,rfl,by rw[Lib.bytesWorld_size];omega,λj a=>Lib.bytesWorld_at_old w e s j a⟩
variable(W)
theorem k81(hW:ov W)(n:Nat):kO W 81 (Xu n):=by
 refine⟨enters Tryz.func81 (by kernel_rfl),λγ w u E x y D F C j=>?_⟩;obtain⟨a,_⟩:=x
 match u,C with
 |[N],C=>
  obtain⟨H,P⟩:=C;obtain rfl:=y5 H;have j:oM n a=some y:=j;unfold oM at j;split at j
  ·rename_i A;injection j with j;subst j;have I:Calls Tryz.prog 81 #[.int .i64 a] w _:=Any.strconv_Itoa Tryz.ad3 a A.1 A.2 w (acd hW F);refine Calls.mono I λe w' J=>?_;obtain⟨rfl,k,M,rfl⟩:=J;exact⟨_,γ,rfl,rn D (Rm w k M) (kU D),Rd.s _ _,trivial,trivial⟩
  ·cases j
theorem agC(n:Nat):kO W 176 (WN n):=by
 refine⟨enters Tryz.func176 (by kernel_rfl),λγ w u E x y D N C j=>?_⟩;obtain⟨s,a,_⟩:=x
 match u,C with
 |[P,Q],C=>
  obtain⟨F,H,R⟩:=C;obtain rfl:=sX F;obtain rfl:=y5 H;have j:wq n s a=some y:=j;unfold wq at j;split at j
  ·rename_i A;injection j with j;subst j;obtain⟨c,rfl⟩:=gD A.1;have I:Calls Tryz.prog 176 #[.string ⟨⟨s⟩⟩,.int .i64 (c:Int)] w _:=Any.strings_Repeat Tryz.ad4 Tryz.acb ⟨⟨s⟩⟩ c w (by omega) (by
    have:=A.2.2
    show s.length*c<=_
    exact Int.ofNat_le.1 (by rw[Int.natCast_mul];exact this));refine Calls.mono I λe w' J=>?_;obtain⟨rfl,M⟩:=J;exact⟨_,γ,rfl,rn D M (kU D),Rd.s _ _,trivial,trivial,trivial⟩
  ·cases j
theorem JY{c:Rc}{m:Option Gp}{a b:TV}{x y:Value}(h:gZ a=true)(C:gZ b=true)(D:Rd c (kK m 0 0) a x)(E:Rd c (kK m 0 1) b y):Rd c m (.eY [a,b]) (.tuple #[x,y]):=by
 refine Rd.eY m [a,b] #[x,y] (λF A=>?_) rfl λj F v u e=>?_
 ·simp only[eo,mH,mI] at A;rcases A with rfl|rfl
  ·exact h
  ·exact C
 ·match j with
  |0=>injection u with u;injection e with e;subst u;subst e;exact D
  |1=>injection u with u;injection e with e;subst u;subst e;exact E
  |j+2=>cases u
theorem ad5{c:Rc}{m:Option Gp}{a b d:TV}{x y z:Value}(h:gZ a=true)(C:gZ b=true)(D:gZ d=true)(E:Rd c (kK m 0 0) a x)(F:Rd c (kK m 0 1) b y)(H:Rd c (kK m 0 2) d z):Rd c m (.eY [a,b,d]) (.tuple #[x,y,z]):=by
 refine Rd.eY m [a,b,d] #[x,y,z] (λI A=>?_) rfl λj I v u e=>?_
 ·simp only[eo,mH,mI] at A;rcases A with rfl|rfl|rfl
  ·exact h
  ·exact C
  ·exact D
 ·match j with
  |0=>injection u with u;injection e with e;subst u;subst e;exact E
  |1=>injection u with u;injection e with e;subst u;subst e;exact F
  |2=>injection u with u;injection e with e;subst u;subst e;exact H
  |j+3=>cases u
theorem k94(hW:ov W)(n:Nat):kO W 94 (Xv n):=by
 refine⟨enters Tryz.func94 (by kernel_rfl),λγ w j D x y C E u a=>?_⟩;obtain⟨s,p,_⟩:=x
 match j,u with
 |[N,P],u=>
  obtain⟨F,H,Q⟩:=u;obtain rfl:=sX F;obtain rfl:=sX H;have a:zk n s p=some y:=a;unfold zk at a;split at a
  ·rename_i A;injection a with a;subst a;obtain⟨m,I⟩:=hW.mx;have J:Calls Tryz.prog 94 #[.string ⟨⟨s⟩⟩,.string ⟨⟨p⟩⟩] w _:=Any.strings_Cut Tryz.ad1 ⟨⟨s⟩⟩ ⟨⟨p⟩⟩ m w A ((IV hW E (show 1<10 by omega)).trans I);refine Calls.mono J λe w' M=>?_;obtain⟨rfl,k,rfl⟩:=M;exact⟨_,γ,rfl,rn C (Zx _ w k) (kU C),ad5 rfl rfl rfl (Rd.s _ _) (Rd.s _ _) (Rd.b _ _),trivial,trivial,trivial⟩
  ·cases a
theorem agD(hW:ov W)(n:Nat):kO W 142 (WK n):=by
 refine⟨enters Tryz.func142 (by kernel_rfl),λγ w u Q x y j P E a=>?_⟩;obtain⟨s,_⟩:=x
 match u,E with
 |[Y],E=>
  obtain⟨R,Z⟩:=E;obtain rfl:=sX R;have a:FP n s=some y:=a;unfold FP at a;split at a
  ·rename_i S;injection a with a;subst a;cases F:Lib.atoiAll s with
   |ok v=>
    have A:Calls Tryz.prog 142 #[.string ⟨⟨s⟩⟩] w _:=Any.strconv_Atoi_ok Tryz.Of ⟨⟨s⟩⟩ (by show s.length<=_;omega) v F w;refine Calls.mono A λe w' C=>?_;obtain⟨rfl,U⟩:=C;have D:Below w.heap.size w w':=by
     rcases U with rfl|⟨t,rfl⟩
     ·exact Below.refl _ _
     ·exact Zy _ _ _
    exact⟨_,γ,rfl,rn j D (kU j),JY rfl rfl (Rd.i _ _ _) (Rd.sf _),trivial,trivial⟩
   |range=>
    obtain⟨H,I,J⟩:=hW.e5;have A:Calls Tryz.prog 142 #[.string ⟨⟨s⟩⟩] w _:=Any.strconv_Atoi_range Tryz.Of ⟨⟨s⟩⟩ (by show s.length<=_;omega) F _ w ((IV hW P (show 5<10 by omega)).trans J) (.inr ⟨H,I,rfl⟩);refine Calls.mono A λe w' C=>?_;obtain⟨N,rfl,_,_,D⟩:=C;exact⟨_,γ,rfl,rn j D (kU j),JY rfl rfl (Rd.i _ _ _) (Rd.sd _ _ _),trivial,trivial⟩
   |_=>
    obtain⟨H,I,M⟩:=hW.e4;have A:Calls Tryz.prog 142 #[.string ⟨⟨s⟩⟩] w _:=Any.strconv_Atoi_syntax Tryz.Of ⟨⟨s⟩⟩ (by show s.length<=_;omega) F _ w ((IV hW P (show 4<10 by omega)).trans M) (.inr ⟨H,I,rfl⟩);refine Calls.mono A λe w' C=>?_;obtain⟨N,rfl,_,_,D⟩:=C;exact⟨_,γ,rfl,rn j D (kU j),JY rfl rfl (Rd.i _ _ _) (Rd.sd _ _ _),trivial,trivial⟩
  ·cases a
end
end Go.Sd
namespace Go.Proofs
open Go.Shelf
set_option maxRecDepth 100000 in
theorem clone_any{P:Program}{ρ:Ren}(L:SlLaysE0.n41 P ρ)(i0:TypeInfo)(z:Value)(size bytes:Nat)(hi:P.info? (ρ.t 23)=some i0)(hz0:i0.zero=some z)(hz1:i0.size=size)(hz2:i0.bytes=bytes)(hzs:z.cells.size=size)(hsz:0<size)
  (z23:∀w,(Go.sizeOf (ρ.t 23)).run P w=.ok size w)(ad:Addr)(n c:Nat)(news:List Value)(w:World)(hl:news.length=n*size)(hn:n<=maxLen)(hbig:n*bytes<=140737488355328)
  (hc:∀j u,news[j]?=some u->w.cell? (ad.add j)=some u)(h1:∀u∈news,u.oneCell'=true):
  Calls P (ρ.f 41) #[.slice (some ad) n c] w λe w'=>∃v',e=.returned v'/\w'.ownsRow w.heap.size (ρ.t 23) size v' n news/\RowKit.Below w.heap.size w w':=by
 have mixed:=L.mixed;have t4:=L.t4;have a4:=L.a4;have z4:=L.z4;have v4:=L.v4;have t22:=L.t22;have a22:=L.a22;have z22:=L.z22;have v22:=L.v22;have q22:∀(w:World)(a:Option Addr)(n c n' c':Nat),(binOp .eql (ρ.t 22) (.slice a n c) (.slice none n' c')).run P w=.ok (.bool a.isNone) w:=λw a n c n' c'=>Lib.run_eql_slice_nil w _ _ a n c n' c' L.t22;have u22:∀w,Sem.run P (underlying (ρ.t 22)) w=.ok (TypeDesc.slice (ρ.t 23)) w:=run_underlying t22;have A:Aside (∀j u,news[j]?=some u->w.cell? (ad.add j)=some u):=hc;clear hc;obtain⟨_,_,FG⟩:=L.f41
 go_enter FG,SlBodyN.n41_ntmps ρ
 go_wp2_with (at_builtin;refine wpList_append_own _ rfl _ _ (ρ.t 22) rfl w.heap.size (ρ.t 23) i0 z size bytes t22 hi hz0 hz1 hz2 hzs hsz _ _ _ rfl (World.ownsRow_made w #[] 0 (hY _) (xD _) (by simp)) ad n c news rfl ?qc1 ?qc2 ?qc3 ?qc4 ?qc5 ?qc6 ?_)
 case qc1=>exact hl
 case qc2=>exactλj u hj=>Lib.cell?_alloc_some _ (A.out j u hj)
 case qc3=>exact h1
 case qc4=>rw[ia];exact hn
 case qc5=>rw[ia];exact hbig
 case qc6=>simp
 intro v' w1 hown hgrow hnil
 go_wp2
 go_ret
 exact⟨v',rfl,by simpa using hown,((RowKit.Below.refl _ w).alloc (hY _) _).grown hgrow (by simp) (by intro k hk;simp[Value.ownBlock] at hk;omega)⟩
end Go.Proofs
namespace Go.Sd
open Go Go.RowKit
open Go.Ev hiding World Event Rd
open Go.Proofs hiding Enters
section
variable{W:World}{γ:Nat->G}{w w':World}
theorem Og{c:Rc}{i:Nat}{A v:Value}{t:Ty}{u:List (El t)}(h:qS c i A (.val (.sl .l t)) u v):(u=[]/\∃a e,v=.slice a 0 e)\/∃b o e,∃f:Nat->Nat->Value,v=.slice (some ⟨b,o,none⟩) u.length e/\u.length<=e/\c.γ b=.im/\
   (∀(r:Nat)x(j:Nat)y,u[r]?=some x->(enc false t x)[j]?=some y->cellAt c.w b (o+r*cG t+j)=some (f r j)/\(f r j).oneCell'=true)/\
   (∀(r:Nat)x(j:Nat)y,u[r]?=some x->(enc false t x)[j]?=some y->Rd c none y (f r j)):=by
 have h:Rd c (some (.cC i,[])) (.dT t u) v:=by
  cases t<;>exact h
 exact h.qy
theorem UO{X:Rt->dh->Prop}(e:∀b,w.heap.size<=b->γ b=.fr)(h:Below w.heap.size w w'){g:Nat}(y:w.heap.size<=g)(j:g<w'.heap.size)(x:G):dA X γ w (iu γ g x) w' where
 im:=λb a=>by
  have:=kU e b (by rw[a];simp);exact⟨by rw[jK (by omega)];exact a,h.block b this⟩
 at':=λb q p a _=>by
  have:=kU e b (by rw[a];simp);exact⟨by rw[jK (by omega)];exact a,h.block b this⟩
 fr:=λb a u=>⟨by rw[jK (by omega)];exact u,h.block b a⟩
 size:=h.size
 new:=λb a=>by
  have:=h.size;rw[jK (by omega)];exact e b (by omega)
 tape:=h.tape
 os:=h.os
 output:=h.output
theorem afa(C:∀b,w.heap.size<=b->γ b=.fr)(h:Below w.heap.size w w'){g:Nat}(E:w.heap.size<=g)(x:G){tv:TV}{v:Value}(A:Rd (dQ γ w) none tv v)(m:Option Gp):Rd (dQ (iu γ g x) w') m tv v:=by
 have a:∀p,¬ MV p tv:=λp j=>by
  obtain⟨u,D⟩:=A.KF j
  cases D
 exact Rd.lift (Rd.same (c':=dQ (iu γ g x) w') A (λb y=>by
  have y:γ b=.im:=y
  have:=kU C b (by rw[y];simp)
  exact⟨by show iu γ g x b=_;rw[jK (by omega)];exact y,h.block b this⟩) (λ_ _ e=>by cases e) (λ_ _=>rfl) (λp j=>(a p j).elim) λp j=>(a p j.mv).elim) m
def kc(n k:Nat)(f:Nat->Nat->Value):List Value:=(List.range (n*k)).map λj=>f (j/k) (j % k)
theorem rq{n k r j:Nat}{f:Nat->Nat->Value}(u:r<n)(e:j<k):(kc n k f)[r*k+j]?=some (f r j):=by
 have a:r*k+j<n*k:=by
  have:(r+1)*k<=n*k:=mh _ (by omega)
  rw[jv] at this
  omega
 unfold kc;rw[hV,zR a];simp only[jc];rw[vv r k,Nat.mul_add_div (by omega),P1 e,q6,Nat.mul_add_mod,zS e]
theorem pM{n k:Nat}{f:Nat->Nat->Value}:(kc n k f).length=n*k:=by simp[kc]
theorem VQ{t:Ty}{xs:List (El t)}{f:Nat->Nat->Value}{e:TypeId}{v':Value}(N:Nat)(F:∀b,w.heap.size<=b->γ b=.fr)(h:Below w.heap.size w w')
  (u:w'.ownsRow w.heap.size e (cG t) v' xs.length (kc xs.length (cG t) f))
  (R:∀x:El t,(enc false t x).length=cG t)
  (S:∀(r:Nat)x(j:Nat)y,xs[r]?=some x->(enc false t x)[j]?=some y->(f r j).oneCell'=true)
  (U:∀(r:Nat)x(j:Nat)y,xs[r]?=some x->(enc false t x)[j]?=some y->Rd (dQ γ w) none y (f r j)):
  ∃A,dA (λq _=>∃n,q=.cC n) γ w A w'/\Rd (dQ A w') (some (.cC N,[])) (.own false t xs) v':=by
 obtain⟨_,u⟩:=u;rcases u with⟨rfl,Y⟩|⟨g,I,C,rfl,Q,H,D,_,Z,J⟩
 ·have:xs=[]:=nL.1 Y;subst this;exact⟨γ,rn F h (kU F),Rd.jC _ _ _ _⟩
 ·have M:g<w'.heap.size:=by
    rcases xJ g w'.heap.size with h|h
    ·exact h
    ·rw[xH h] at H;cases H
  refine⟨iu γ g (.at (.cC N) [tg t]),UO F h Q M _,Rd.kf (.cC N) [] false t xs g 0 I C e (0,0) f D pO H mz.zero (by omega) (λr x j y hx E=>⟨?_,S r x j y hx E⟩) λr x j y hx E=>afa F h Q _ (U r x j y hx E) _⟩;have hr:r<xs.length:=by
   rcases xJ r xs.length with h|h
   ·exact h
   ·rw[mY h] at hx;cases hx
  have P:j<cG t:=by
   rw[<-R x]
   rcases xJ j (enc false t x).length with h|h
   ·exact h
   ·rw[mY h] at E;cases E
  have a:=rq (f:=f) hr P;rw[<-J,oz] at a;split at a
  ·have:C[r*cG t+j]?=some (f r j):=by simpa using a
   simp[cellAt,World.cell?,dQ,H,this]
  ·cases a
variable(W)
theorem agE(n:Nat):kO W 133 (WM n):=by
 refine⟨enters Tryz.func133 (by kernel_rfl),λγ w P ad(x:List cq×cq×Unit)(y:cq)Y hG Z E=>?_⟩;obtain⟨xs,p,_⟩:=x
 match P,Z with
 |[v1,v2],Z=>
  obtain⟨h1,h2,h3⟩:=Z;obtain rfl:=sX h2;have E:Ck n xs p=some y:=E;unfold Ck at E;split at E
  ·rename_i Q;injection E with E;subst E;have C:∀{w':World},Below w.heap.size w w'->∃v R,Ending.returned (.string ⟨⟨Lib.join xs p⟩⟩)=.returned v/\dA (λq _=>∃n,q=.cC n) γ w R w'/\qT (dQ R w') 2 [.val (.el .str [])] ((Lib.join xs p,()):jQ [.val (.el .str [])]) v/\(True/\True/\True):=λS=>
    ⟨_,γ,rfl,rn Y S (kU Y),Rd.s _ _,trivial,trivial,trivial⟩
   rcases Og h1 with⟨rfl,a,u,rfl⟩|⟨b,o,u,f,rfl,U,aa,J,ab⟩
   ·have F:Calls Tryz.prog 133 #[.slice a 0 u,.string ⟨⟨p⟩⟩] w _:=Any.strings_Join_none Tryz.B8 Tryz.BS a u ⟨⟨p⟩⟩ w;refine Calls.mono F λe w' M=>?_;obtain⟨rfl,rfl⟩:=M;exact C (Below.refl _ _)
   ·have S:b<w.heap.size:=kU Y b (by rw[show γ b=.im from aa];simp);have A:∀(j:Nat)x,(xs.map λs=>(⟨⟨s⟩⟩:ByteArray))[j]?=some x->w.cell? ⟨b,o+j,none⟩=some (.string x):=λj x hx=>by
     rw[hV] at hx
     cases D:xs[j]? with
     |none=>rw[D] at hx;cases hx
     |some s=>
      rw[D] at hx
      injection hx with hx
      subst hx
      obtain⟨N,_⟩:=J j s 0 (.s s) D rfl
      have hv:=(ab j s 0 (.s s) D rfl).nq
      rw[hv] at N
      have:o+j*cG .str+0=o+j:=by simp[cG]
      rw[this] at N
      exact N
    have H:(xs.map λs=>(⟨⟨s⟩⟩:ByteArray)).map (λx=>x.data.toList)=xs:=by
     rw[Dc]
     exact P7 _
    rcases xs with _|⟨s,_|⟨s2,l⟩⟩
    ·have F:Calls Tryz.prog 133 #[.slice (some ⟨b,o,none⟩) 0 u,.string ⟨⟨p⟩⟩] w _:=Any.strings_Join_none Tryz.B8 Tryz.BS _ u ⟨⟨p⟩⟩ w;refine Calls.mono F λe w' M=>?_;obtain⟨rfl,rfl⟩:=M;exact C (Below.refl _ _)
    ·have F:Calls Tryz.prog 133 #[.slice (some ⟨b,o,none⟩) 1 u,.string ⟨⟨p⟩⟩] w _:=Any.strings_Join_one Tryz.B8 Tryz.BS b o u ⟨⟨s⟩⟩ ⟨⟨p⟩⟩ w (A 0 ⟨⟨s⟩⟩ rfl);refine Calls.mono F λe w' M=>?_;obtain⟨rfl,rfl⟩:=M;have e:Lib.join [s] p=s:=Lib.join_one s p;have I:=C (Below.refl _ w');rw[e] at I;rw[e];exact I
    ·have F:=Any.strings_Join_many Tryz.B8 Tryz.BS b o u ((s::s2::l).map λs=>(⟨⟨s⟩⟩:ByteArray)) ⟨⟨p⟩⟩ w A S (by simp) (by rw[oC];exact Q.1) (by rw[oC];exact U) (by rw[H];exact Q.2);rw[H,oC] at F;refine Calls.mono (show Calls Tryz.prog 133 #[.slice (some ⟨b,o,none⟩) (s::s2::l).length u,.string ⟨⟨p⟩⟩] w _ from F) λe w' M=>?_;obtain⟨rfl,S⟩:=M;exact C S
  ·cases E
end
section
variable{W:World}{γ:Nat->G}{w w':World}
theorem Zz(w:World)(o:Obj):Below w.heap.size w (w.alloc o):=(Below.refl _ w).alloc (hY _) _
theorem ad6{l:List ByteArray}{y:List cq}{e:TypeId}(N:Nat)(H:l.map (λx=>x.data.toList)=y)(I:w'.heap[w.heap.size]?=some (.cells (l.map Value.string).toArray e)):Rd (dQ (iu γ w.heap.size (.at (.cC N) [tg .str])) w') (some (.cC N,[])) (.own true .str y) (.slice (some ⟨w.heap.size,0,none⟩) l.length l.length):=by
 have A:∀(r:Nat)(x:cq),y[r]?=some x->l[r]?=some ⟨⟨x⟩⟩:=λr x hx=>by
  rw[<-H,hV] at hx
  cases J:l[r]? with
  |none=>rw[J] at hx;cases hx
  |some q=>
   rw[J] at hx
   injection hx with hx
   rw[<-hx]
 have C:y.length=l.length:=by rw[<-H,oC]
 have D:∀(x:cq)(j:Nat)(u:TV),(enc true .str x)[j]?=some u->j=0/\u=.s x:=λx j u a=>by
  match j with
  |0=>injection a with a;exact⟨rfl,a.symm⟩
  |j+1=>cases a
 have E:Rd (dQ (iu γ w.heap.size (.at (.cC N) [tg .str])) w') (some (.cC N,[])) (.own true .str y) (.slice (some ⟨w.heap.size,0,none⟩) y.length l.length):=by
  refine Rd.kf (.cC N) [] true .str y w.heap.size 0 l.length _ e (0,0) (λr _=>.string ⟨⟨(y[r]?).getD []⟩⟩) (YA C) pO I mz.zero (by simp[cG]) (λr x j u hx a=>?_) λr x j u hx a=>?_
  ·obtain⟨rfl,rfl⟩:=D x j u a;have hx:y[r]?=some x:=hx;have M:=A r x hx;have:(l.map Value.string)[r]?=some (.string ⟨⟨x⟩⟩):=by rw[hV,M];rfl
   refine⟨?_,rfl⟩;have F:(y[r]?).getD ([]:cq)=x:=by rw[hx];rfl
   rw[F];simp only[cellAt,World.cell?,dQ,I];simpa[cG] using this
  ·obtain⟨rfl,rfl⟩:=D x j u a;have hx:y[r]?=some x:=hx;have F:(y[r]?).getD ([]:cq)=x:=by rw[hx];rfl
   rw[F];exact Rd.s _ _
 rw[C] at E;exact E
variable(W)
theorem agF(hW:ov W)(n:Nat):kO W 100 (WL n):=by
 refine⟨enters Tryz.func100 (by kernel_rfl),λγ w u H(x:cq×cq×Unit)(y:List cq)I J C a=>?_⟩;obtain⟨s,p,_⟩:=x
 match u,C with
 |[U,Y],C=>
  obtain⟨M,N,Z⟩:=C;obtain rfl:=sX M;obtain rfl:=sX N;have a:qA n s p=some y:=a;unfold qA at a;split at a
  ·rename_i A;injection a with a;obtain⟨m,P⟩:=hW.mx;have D:(Lib.splitB ⟨⟨p⟩⟩ 0 (Lib.countB ⟨⟨s⟩⟩ ⟨⟨p⟩⟩) ⟨⟨s⟩⟩).map (λx=>x.data.toList)=y:=by rw[<-a];exact Lib.splitB_data _ _ _ _
   have E:1<=(⟨⟨p⟩⟩:ByteArray).size:=A.2;have j:(Lib.splitB ⟨⟨p⟩⟩ 0 (Lib.countB ⟨⟨s⟩⟩ ⟨⟨p⟩⟩) ⟨⟨s⟩⟩).length=Lib.countB ⟨⟨s⟩⟩ ⟨⟨p⟩⟩+1:=Lib.splitB_all _ E _ _ _ rfl;have F:Calls Tryz.prog 100 #[.string ⟨⟨s⟩⟩,.string ⟨⟨p⟩⟩] w _:=Any.strings_Split Tryz.ad2 (by kernel_rfl) ⟨⟨s⟩⟩ ⟨⟨p⟩⟩ m w A.1 ((IV hW J (show 1<10 by omega)).trans P) E;rw[<-j] at F;refine Calls.mono F λe w' Q=>?_;obtain⟨rfl,rfl⟩:=Q;generalize Lib.splitB ⟨⟨p⟩⟩ 0 (Lib.countB ⟨⟨s⟩⟩ ⟨⟨p⟩⟩) ⟨⟨s⟩⟩=l at D j;have R:=Zz w (.cells (l.map Value.string).toArray (Tryz.HB.t 9));have S:(w.alloc (.cells (l.map Value.string).toArray (Tryz.HB.t 9))).heap[w.heap.size]?=some (.cells (l.map Value.string).toArray (Tryz.HB.t 9)):=by
    show(w.heap.push _)[w.heap.size]?=_;simp
   exact⟨_,iu γ w.heap.size (.at (.cC 2) [tg .str]),rfl,UO I R (hY _) (by show _<(w.heap.push _).size;simp) _,ad6 2 D S,trivial,trivial,trivial⟩
  ·cases a
theorem Ji{t:Ty}{f:Nat}{I:Go.Shelf.Ren}(L:Go.Proofs.SlLaysE0.n41 Tryz.prog I)(J:TypeInfo)(z:Value)(bytes:Nat)(hi:Tryz.prog.info? (I.t 23)=some J)(M:J.zero=some z)(N:J.size=cG t)(P:J.bytes=bytes)(Q:z.cells.size=cG t)(E:0<cG t)(aa:bytes<=1000)
  (R:∀w,(Go.sizeOf (I.t 23)).run Tryz.prog w=.ok (cG t) w){xs:List (El t)}{v1 Y:Value}(Z:∀b,w.heap.size<=b->γ b=.fr)(h1:qS (dQ γ w) 0 Y (.val (.sl .l t)) xs v1)(hl:xs.length<4294967296):
  Calls Tryz.prog (I.f 41) #[v1] w λe w'=>∃v y,e=.returned v/\dA (λq _=>∃n,q=.cC n) γ w y w'/\Rd (dQ y w') (some (.cC 1,[])) (.own false t xs) v:=by
 have ab:∀(a:Option Addr)(A:Nat),Calls Tryz.prog (I.f 41) #[.slice a 0 A] w λe w'=>∃v y,e=.returned v/\dA (λq _=>∃n,q=.cC n) γ w y w'/\Rd (dQ y w') (some (.cC 1,[])) (.own false t []) v:=λa A=>by
  cases a with
  |none=>
   refine Calls.mono (AnyE.slices_Clone_nil L 0 A w) λe w' S=>?_
   obtain⟨rfl,rfl⟩:=S
   exact⟨_,γ,rfl,rn Z (Below.refl _ _) (kU Z),Rd.jC _ _ _ _⟩
  |some ad=>
   refine Calls.mono (clone_any L J z (cG t) bytes hi M N P Q E R ad 0 A [] w (by simp) (by omega) (by omega) (by simp) (by simp)) λe w' S=>?_
   obtain⟨v',rfl,C,hb⟩:=S
   have H:w'.ownsRow w.heap.size (I.t 23) (cG t) v' ([]:List (El t)).length (kc ([]:List (El t)).length (cG t) λ_ _=>.bool true):=by
    have:kc ([]:List (El t)).length (cG t) (λ_ _=>Value.bool true)=[]:=nL.1 (by rw[pM];simp)
    rw[this];exact C
   obtain⟨y,h2,h3⟩:=VQ (xs:=([]:List (El t))) 1 Z hb H (λx=>gV _ _ _) (λr x j tv hx=>by simp at hx) (λr x j tv hx=>by simp at hx)
   exact⟨v',y,rfl,h2,h3⟩
 rcases Og h1 with⟨rfl,a,A,rfl⟩|⟨b,o,A,g,rfl,ai,aj,D,ae⟩
 ·exact ab a A
 ·have U:∀j u,(kc xs.length (cG t) g)[j]?=some u->w.cell? ((⟨b,o,none⟩:Addr).add j)=some u/\u.oneCell'=true:=λj u F=>by
    have af:j<xs.length*cG t:=by
     rw[<-pM (f:=g)]
     rcases xJ j (kc xs.length (cG t) g).length with h|h
     ·exact h
     ·rw[mY h] at F;cases F
    have hm:j % cG t<cG t:=LN _ E;have Y:j/cG t<xs.length:=by
     rw[Nat.div_lt_iff_lt_mul E];exact af
    have e:=rq (f:=g) Y hm;have ej:j/cG t*cG t+j % cG t=j:=by rw[vv];exact P3 j _
    rw[ej,F] at e;injection e with e;obtain⟨X,hx⟩:∃X,xs[j/cG t]?=some X:=⟨_,eA Y⟩;obtain⟨tv,ah⟩:∃tv,(enc false t X)[j % cG t]?=some tv:=⟨_,eA (by rw[gV];exact hm)⟩;obtain⟨c1,c2⟩:=D _ _ _ _ hx ah;rw[<-e] at c1 c2;rw[show o+j/cG t*cG t+j % cG t=o+j by omega] at c1;refine⟨?_,c2⟩;rw[Addr.add_lit];exact c1
  refine Calls.mono (clone_any L J z (cG t) bytes hi M N P Q E R ⟨b,o,none⟩ xs.length A (kc xs.length (cG t) g) w pM (by unfold maxLen;omega) (by
   have:xs.length*bytes<=4294967296*1000:=LO (by omega) aa
   omega) (λj u F=>(U j u F).1) λu hu=>by
   obtain⟨j,F,rfl⟩:=pD hu
   exact(U j _ (eA F)).2) λe w' S=>?_;obtain⟨v',rfl,C,hb⟩:=S;obtain⟨y,h2,h3⟩:=VQ 1 Z hb C (λx=>gV _ _ _) (λr x j tv hx F=>(D r x j tv hx F).2) ae;exact⟨v',y,rfl,h2,h3⟩
end
section
variable(W:World)
noncomputable def Wp(T:TypeId)(k:Nat):Bool:=match Tryz.prog.info? T with
 |some i=>(match i.zero with|some z=>Nat.beq i.size k&&Nat.beq z.cells.size k|none=>false)&&Nat.ble i.bytes 1000
 |none=>false
theorem wG{T:TypeId}{k:Nat}(h:Wp T k=true):∃i z,Tryz.prog.info? T=some i/\i.zero=some z/\i.size=k/\z.cells.size=k/\i.bytes<=1000:=by
 unfold Wp at h;cases e:Tryz.prog.info? T with
 |none=>rw[e] at h;cases h
 |some i=>
  rw[e] at h;simp only at h;cases a:i.zero with
  |none=>rw[a] at h;simp at h
  |some z=>
   rw[a] at h;simp only[du] at h;exact⟨i,z,rfl,a,gw h.1.1,gw h.1.2,YC h.2⟩
theorem agG(n:Nat):kO W 182 (WT n):=by
 refine⟨enters Tryz.func182 (by kernel_rfl),λZ w j D(x:List dj×Unit)(y:List dj)E hG u a=>?_⟩;obtain⟨F,_⟩:=x
 match j,u with
 |[H],u=>
  obtain⟨I,h3⟩:=u;have a:EU n F=some y:=a;unfold EU at a;split at a
  ·rename_i A;injection a with a;subst a;obtain⟨i,z,J,M,N,P,Q⟩:=wG (T:=Tryz.QA.t 23) (k:=3) (by kernel_rfl);have R:Calls Tryz.prog 182 #[H] w _:=Ji (t:=.hold) (f:=182) Tryz.ab8 i z i.bytes J M N rfl P (by decide) Q (λw=>by kernel_rfl) E I A;refine Calls.mono R λe w' S=>?_;obtain⟨v,C,rfl,U,Y⟩:=S;exact⟨v,C,rfl,U,Y.BB rfl,trivial,trivial⟩
  ·cases a
theorem agH(n:Nat):kO W 180 (WS n):=by
 refine⟨enters Tryz.func180 (by kernel_rfl),λZ w j D(x:List Int×Unit)(y:List Int)E hG u a=>?_⟩;obtain⟨F,_⟩:=x
 match j,u with
 |[H],u=>
  obtain⟨I,h3⟩:=u;have a:ET n F=some y:=a;unfold ET at a;split at a
  ·rename_i A;injection a with a;subst a;obtain⟨i,z,J,M,N,P,Q⟩:=wG (T:=Tryz.Qz.t 23) (k:=1) (by kernel_rfl);have R:Calls Tryz.prog 180 #[H] w _:=Ji (t:=.int .i64) (f:=180) Tryz.ab7 i z i.bytes J M N rfl P (by decide) Q (λw=>by kernel_rfl) E I A;refine Calls.mono R λe w' S=>?_;obtain⟨v,C,rfl,U,Y⟩:=S;exact⟨v,C,rfl,U,Y.BB rfl,trivial,trivial⟩
  ·cases a
theorem agI(n:Nat):kO W 126 (WV n):=by
 refine⟨enters Tryz.func126 (by kernel_rfl),λZ w j D(x:List de×Unit)(y:List de)E hG u a=>?_⟩;obtain⟨F,_⟩:=x
 match j,u with
 |[H],u=>
  obtain⟨I,h3⟩:=u;have a:EW n F=some y:=a;unfold EW at a;split at a
  ·rename_i A;injection a with a;subst a;obtain⟨i,z,J,M,N,P,Q⟩:=wG (T:=Tryz.QC.t 23) (k:=4) (by kernel_rfl);have R:Calls Tryz.prog 126 #[H] w _:=Ji (t:=.op) (f:=126) Tryz.aca i z i.bytes J M N rfl P (by decide) Q (λw=>by kernel_rfl) E I A;refine Calls.mono R λe w' S=>?_;obtain⟨v,C,rfl,U,Y⟩:=S;exact⟨v,C,rfl,U,Y.BB rfl,trivial,trivial⟩
  ·cases a
theorem agJ(n:Nat):kO W 124 (WU n):=by
 refine⟨enters Tryz.func124 (by kernel_rfl),λZ w j D(x:List eH×Unit)(y:List eH)E hG u a=>?_⟩;obtain⟨F,_⟩:=x
 match j,u with
 |[H],u=>
  obtain⟨I,h3⟩:=u;have a:EV n F=some y:=a;unfold EV at a;split at a
  ·rename_i A;injection a with a;subst a;obtain⟨i,z,J,M,N,P,Q⟩:=wG (T:=Tryz.QB.t 23) (k:=3) (by kernel_rfl);have R:Calls Tryz.prog 124 #[H] w _:=Ji (t:=.stx) (f:=124) Tryz.ab9 i z i.bytes J M N rfl P (by decide) Q (λw=>by kernel_rfl) E I A;refine Calls.mono R λe w' S=>?_;obtain⟨v,C,rfl,U,Y⟩:=S;exact⟨v,C,rfl,U,Y,trivial,trivial⟩
  ·cases a
end
end Go.Sd
namespace Go.Proofs
open Go.Shelf Go.RowKit
theorem wpList_append_run{P:Program}{j:Array Oper}{e:List Oper}{o:Oper}{a:Act}{Q:Exit->Act->World->Prop}{w A:World}(u:o.guard=none)(s x:Operand)(t C:TypeId)
  (I:o.op=.call {callee:=.builtin .append,args:=#[s,x],argTypes:=#[t,C]}){D E F:Value}(J:a.eval s=D)(hx:a.eval x=E){H:TypeId}(y:o.type=H)
  (M:(Builtin.append_ #[t,C] H #[D,E]).run P w=.ok F A)(h:wpList P j Q e (a.put o.dst F) A):wpList P j Q (o::e) a w:=
 wpList_plain u λ_ N=>by
  subst y;unfold Oper.wp execOp;simp only[I,resolve,invoke,builtin,Sem.run_bind,Sem.run_pure,Result.andThen_ok,List.map_toArray,lk,sC,J,hx,M];exact N _ _ h
set_option maxHeartbeats 2000000 in
set_option maxRecDepth 100000 in
theorem bwrite_walk{b:Nat}{ao ao':Option Addr}{n0 cap n1 cap':Nat}{s:ByteArray}{w w1 w2:World}(hcc:Calls Tryz.prog 211 #[.pointer (some ⟨b,0,none⟩)] w λe w'=>e=.returned (.tuple #[])/\w'=w1)
  (hb1:w1.heap[b]?=some (.cells #[.pointer (some ⟨b,0,none⟩),.slice ao n0 cap] 181 (0,0)))
  (hap:(Builtin.append_ #[22,9] 22 #[.slice ao n0 cap,.string s]).run Tryz.prog w1=.ok (.slice ao' n1 cap') w2)
  (hb2:w2.heap[b]?=some (.cells #[.pointer (some ⟨b,0,none⟩),.slice ao n0 cap] 181 (0,0))):
  Calls Tryz.prog 170 #[.pointer (some ⟨b,0,none⟩),.string s] w λe w'=>e=.returned (.tuple #[.int .i64 s.size,.nilIface])/\w'=w2.setCell ⟨b,1,none⟩ (.slice ao' n1 cap'):=by
 go_enter Tryz.func170,Tryz.ntmps170
 go_wp2_with (go_at_call 211;refine hcc.mono ?_)
 rintro e w' ⟨rfl,rfl⟩;have c0:w'.cell? ⟨b,0,none⟩=some (.pointer (some ⟨b,0,none⟩)):=by rw[Lib.cell_of_heap hb1];rfl
 have c1:w'.cell? ⟨b,1,none⟩=some (.slice ao n0 cap):=by rw[Lib.cell_of_heap hb1];rfl
 have d0:w2.cell? ⟨b,0,none⟩=some (.pointer (some ⟨b,0,none⟩)):=by rw[Lib.cell_of_heap hb2];rfl
 have d1:w2.cell? ⟨b,1,none⟩=some (.slice ao n0 cap):=by rw[Lib.cell_of_heap hb2];rfl
 have f1:w2.frozen? ⟨b,1,none⟩=false:=Lib.frozen_of_heap hb2 1
 go_wp2_with (at_builtin;refine wpList_append_run rfl _ _ 22 9 rfl rfl rfl rfl hap ?_)
 go_wp2
 go_ret2
 exact⟨rfl,rfl⟩
end Go.Proofs
namespace Go.Sd
open Go Go.RowKit
open Go.Ev hiding World Event Rd
open Go.Proofs hiding Enters
section
variable{W:World}{γ:Nat->G}{w w':World}
def zM:Cx:=⟨[],λ_=>.un,λ_=>true,true,λ_=>true,λ_=>true,λ_=>[],λ_ _=>none,λ_=>none⟩
theorem WY(a:∀b,w.heap.size<=b->γ b=.fr):Rel zM ⟨w.heap.size,γ,w⟩ ⟨pQ,rI⟩ ⟨γ,λ_=>0,λ_=>.bool true⟩ w where
 fD k:=by
  rw[show TS.slot ⟨pQ,rI⟩ k=.un from Mc k];exact .un _ _
 boxes k:=by
  rw[show TS.box ⟨pQ,rI⟩ k=.none from Mq k];trivial
 cI:=⟨rfl,rfl,rfl,hY _,λb _ h=>⟨h,rfl⟩,λb _ h=>⟨h,rfl⟩,a⟩
 gl i:=.un _ _
 kM i:=⟨λp h=>(by cases h),λk h=>by cases h⟩
 gb i o h:=by cases h
def n9(γ:Nat->G)(b:Nat):Nat->G:=λi=>if i=b then .at (.box 0) [] else match γ i with
 |.at q (x::p)=>if q=.cC 0/\x=(0,1) then .at (.cC 0) p else .at q (x::p)
 |y=>y
theorem afb{b:Nat}:n9 γ b b=.at (.box 0) []:=cJ rfl
theorem UP{b i:Nat}(a:γ b≠.im)(h:γ i=.im):n9 γ b i=.im:=by
 have e:i≠b:=by rintro rfl;exact a h
 unfold n9;rw[cK e,h]
theorem UQ{b i:Nat}(a:γ b≠.fr)(h:γ i=.fr):n9 γ b i=.fr:=by
 have e:i≠b:=by rintro rfl;exact a h
 unfold n9;rw[cK e,h]
theorem ad7{b i:Nat}{q:Rt}{p:dh}(a:i≠b)(h:γ i=.at q p)(j:∀n,q≠.cC n):n9 γ b i=.at q p:=by
 unfold n9;rw[cK a,h];cases p with
 |nil=>rfl
 |cons x p=>exact cK (λe=>j 0 e.1)
theorem ace{b i:Nat}{p:dh}(a:i≠b)(h:γ i=.at (.cC 0) ((0,1)::p)):n9 γ b i=.at (.cC 0) p:=by
 unfold n9;rw[cK a,h];exact cJ ⟨rfl,rfl⟩
theorem ad8{b:Nat}{A C D:World}{E F:Nat->G}(M:∀i,w.heap.size<=i->γ i=.fr)(H:γ b=.at (.cC 0) [])(N:b<w.heap.size)
  (u:A.heap.size=w.heap.size/\(∀i,i≠b->A.heap[i]?=w.heap[i]?)/\A.tape=w.tape/\A.os=w.os/\A.output=w.output)
  (a:dA (λq _=>∃n,q=.cC n) (n9 γ b) A E C)
  (y:D.heap.size=C.heap.size/\(∀i,i≠b->D.heap[i]?=C.heap[i]?)/\D.tape=C.tape/\D.os=C.os/\D.output=C.output)
  (x:∀i,F i=γ i\/∃p,E i=.at (.cC 0) p):dA (λq _=>∃n,q=.cC n) γ w F D where
 im i hi:=by
  have j:i≠b:=by rintro rfl;rw[H] at hi;cases hi
  obtain⟨k1,k2⟩:=a.im i (UP (by rw[H];simp) hi);refine⟨?_,by rw[y.2.1 i j,k2,u.2.1 i j]⟩;rcases x i with e|⟨p,e⟩
  ·rw[e];exact hi
  ·rw[k1] at e;cases e
 at' i q p hi hx:=by
  have I:∀n,q≠.cC n:=λn e=>hx ⟨n,e⟩;have j:i≠b:=by rintro rfl;rw[H] at hi;cases hi;exact I 0 rfl
  obtain⟨k1,k2⟩:=a.at' i q p (ad7 j hi I) hx;refine⟨?_,by rw[y.2.1 i j,k2,u.2.1 i j]⟩;rcases x i with e|⟨J,e⟩
  ·rw[e];exact hi
  ·rw[k1] at e;cases e;exact absurd rfl (I 0)
 fr i hi h0:=by
  have j:i≠b:=by rintro rfl;rw[H] at h0;cases h0
  obtain⟨k1,k2⟩:=a.fr i (by rw[u.1];exact hi) (UQ (by rw[H];simp) h0);refine⟨?_,by rw[y.2.1 i j,k2,u.2.1 i j]⟩;rcases x i with e|⟨J,e⟩
  ·rw[e];exact h0
  ·rw[k1] at e;cases e
 size:=by have:=a.size;rw[u.1] at this;rw[y.1];exact this
 new i hi:=by
  have P:=a.size;rw[u.1] at P;rw[y.1] at hi;rcases x i with e|⟨J,e⟩
  ·rw[e];exact M i (by omega)
  ·rw[a.new i hi] at e;cases e
 tape:=y.2.2.1.trans (a.tape.trans u.2.2.1)
 os:=y.2.2.2.1.trans (a.os.trans u.2.2.2.1)
 output:=y.2.2.2.2.trans (a.output.trans u.2.2.2.2)
theorem R5{b i:Nat}{a:Array Value}{t:TypeId}{v:Value}(h:w.heap[b]?=some (.cells a t (0,0))):((w.setCell ⟨b,i,none⟩ v).heap.size=w.heap.size/\(∀k,k≠b->(w.setCell ⟨b,i,none⟩ v).heap[k]?=w.heap[k]?)/\(w.setCell ⟨b,i,none⟩ v).tape=w.tape/\(w.setCell ⟨b,i,none⟩ v).os=w.os/\(w.setCell ⟨b,i,none⟩ v).output=w.output)/\(w.setCell ⟨b,i,none⟩ v).heap[b]?=some (.cells (a.setIfInBounds i v) t (0,0)):=⟨⟨by simp[World.setCell],λk e=>Below.heap_setCell w ⟨b,i,none⟩ v k e,rfl,rfl,rfl⟩,Go.heap_setCell_same w b i a t v h⟩
theorem F5{d:Bool}{y:Int}{j:Nat}{a:TV}(h:(enc d (.int .u8) y)[j]?=some a):j=0/\a=.i .u8 y:=by
 match j with
 |0=>injection h with h;exact⟨rfl,h.symm⟩
 |j+1=>cases h
theorem acf{a:Type}{l m:List a}{n r:Nat}{x:a}(h:l.take n=m)(e:r<n)(hx:m[r]?=some x):l[r]?=some x:=by
 rw[<-h,oz,cJ e] at hx;exact hx
theorem afc{x:cq}{v:Value}(h:s8 γ w (.cC 0) x v)(I:x.length<=140737488355328):Rd (dQ γ w) (some (.cC 0,[(0,1)])) (.own true (.int .u8) (dB x)) v:=by
 rcases h I with⟨rfl,rfl⟩|⟨g,e,A,rfl,J,H,R,S,U,Y,M⟩
 ·exact Rd.jC _ _ _ _
 ·have D:(dB x).length=x.length:=by simp[dB]
  have C:Rd (dQ γ w) (some (.cC 0,[(0,1)])) (.own true (.int .u8) (dB x)) (.slice (some ⟨g,0,none⟩) (dB x).length e):=by
   refine Rd.kf (.cC 0) [(0,1)] true (.int .u8) (dB x) g 0 e A 5 (0,0) (λr _=>.int .u8 ((x[r]?).getD 0).toNat) (by show List.length (α:=Int) (dB x)<=e;omega) J H mz.zero (by simp[cG];omega) (λr y j N a E=>⟨?_,rfl⟩) λr y j N a E=>?_
   ·obtain⟨rfl,rfl⟩:=F5 E;have a:(x.map λc=>(c.toNat:Int))[r]?=some y:=a;rw[hV] at a;cases u:x[r]? with
    |none=>rw[u] at a;cases a
    |some c=>
     have P:r<x.length:=(eF.1 u).1;have Q:(x.map λc=>Value.int .u8 c.toNat)[r]?=some (.int .u8 c.toNat):=by rw[hV,u];rfl
     have:=acf M P Q;have F:(dQ γ w).w.heap[g]?=some (.cells A 5 (0,0)):=H;simp only[cellAt,World.cell?,F,cG];simpa using this
   ·obtain⟨rfl,rfl⟩:=F5 E;have a:(x.map λc=>(c.toNat:Int))[r]?=some y:=a;rw[hV] at a;cases u:x[r]? with
    |none=>rw[u] at a;cases a
    |some c=>
     rw[u] at a;have a:(c.toNat:Int)=y:=gA a;rw[<-a];exact Rd.i _ _ _
  rw[D] at C;exact C
theorem ad9{x:cq}{v:Value}(h:s8 γ w (.cC 0) x v)(j:x.length<=140737488355328):w.ownsRow 0 5 1 v x.length (x.map λc=>Value.int .u8 c.toNat):=by
 refine⟨by simp,?_⟩;rcases h j with⟨rfl,rfl⟩|⟨g,a,e,rfl,D,u,y,E,A,F,C⟩
 ·exact .inl ⟨rfl,rfl⟩
 ·exact .inr ⟨g,a,e,rfl,xD _,u,y,A,by omega,by rw[LL];exact C⟩
theorem aaO{b:Nat}{x s:cq}(hf:∀i,w.heap.size<=i->γ i=.fr)(hB:wV (dQ γ w) (.cC 0) b x)(ay:1<=s.length)(hl:x.length+s.length<=140737488355328):
  Calls Tryz.prog 170 #[nX b,.string ⟨⟨s⟩⟩] w λe w'=>∃ad,e=.returned (.tuple #[.int .i64 (s.length:Int),.nilIface])/\dA (λq _=>∃n,q=.cC n) γ w ad w'/\wV (dQ ad w') (.cC 0) b (x++s):=by
 obtain⟨p,v,M,I,hp,a⟩:=hB;have a:s8 γ w (.cC 0) x v:=a;have M:w.heap[b]?=some (.cells #[p,v] 181 (0,0)):=M;have I:γ b=.at (.cC 0) []:=I;have hr:=afc a (by omega);have N:=ad9 a (by omega);have an:b<w.heap.size:=kU hf b (by rw[I];simp);obtain⟨w1,ap,C,ae⟩:∃w1,(Calls Tryz.prog 211 #[nX b] w λe w'=>e=.returned (.tuple #[])/\w'=w1)/\(w1.heap.size=w.heap.size/\(∀i,i≠b->w1.heap[i]?=w.heap[i]?)/\w1.tape=w.tape/\w1.os=w.os/\w1.output=w.output)/\w1.heap[b]?=some (.cells #[nX b,v] 181 (0,0)):=by
  have c0:w.cell? ⟨b,0,none⟩=some p:=by rw[Lib.cell_of_heap M];rfl
  rcases hp with rfl|rfl
  ·have A:=R5 (i:=0) (v:=nX b) M;exact⟨_,Any.Builder_copyCheck_fresh {Tryz.B8 with} Tryz.BS.toX72 b w c0 (show w.shape? b=some (181,2) by simp[World.shape?,M]) (Lib.frozen_of_heap M 0),A.1,A.2⟩
  ·exact⟨w,Any.Builder_copyCheck_used {Tryz.B8 with} Tryz.BS.toX72 b w c0,⟨rfl,λ_ _=>rfl,rfl,rfl,rfl⟩,M⟩
 have aq:∀i,w1.heap.size<=i->n9 γ b i=.fr:=λi u=>by
  rw[C.1] at u
  exact UQ (by rw[I];simp) (hf i u)
 have hx:Rd (Gs.rc zM ⟨n9 γ b,λ_=>0,λ_=>.bool true⟩ w1) (some (.cC 0,[])) (.own true (.int .u8) (dB x)) v:=by
  refine hr.mono _ (λi u=>?_) (λq π he=>?_) (λk hk=>by cases hk) (λk hk=>by cases hk) (λk hk=>by cases hk)
  ·have u:γ i=.im:=u;have J:i≠b:=by rintro rfl;rw[I] at u;cases u
   exact⟨UP (by rw[I];simp) u,C.2.1 i J⟩
  ·simp only[cW,eE] at he;obtain⟨rfl,rfl⟩:=he;refine⟨_,_,rfl,λi π u=>?_⟩;have u:γ i=.at (.cC 0) ((0,1)::π):=u;have J:i≠b:=by rintro rfl;rw[I] at u;cases u
   exact⟨ace J u,C.2.1 i J⟩
 obtain⟨i,z,a1,a2,a3,a4,a5⟩:=wG (T:=5) (k:=1) (by kernel_rfl);have af:i.bytes=1:=by
  have:(Tryz.prog.info? 5).map (·.bytes)=some 1:=by kernel_rfl
  rw[a1] at this
  injection this
 have T:KU Tryz.prog 22 9 (.int .u8) 5 i z:=⟨Tryz.underlying22,a1,a2,a3,a4,.inr Tryz.underlying9⟩;have au:(dB s).length=s.length:=by simp[dB]
 have az:(dB x).length=x.length:=by simp[dB]
 have src:Src Tryz.prog (cG (.int .u8)) 9 (.string ⟨⟨s⟩⟩) (dB s).length (Go.byteCells ⟨⟨s⟩⟩) w1:=by
  rw[au]
  exact Src.ofString w1 Tryz.underlying9 ⟨⟨s⟩⟩
 have av:ly (Gs.rc zM ⟨n9 γ b,λ_=>0,λ_=>.bool true⟩ w1) true (.int .u8) (dB s) (Go.byteCells ⟨⟨s⟩⟩):=by
  refine⟨by rw[Go.byteCells_length];show s.length=(dB s).length*1;omega,λr y j tv H hj=>?_⟩
  obtain⟨rfl,rfl⟩:=F5 hj
  refine⟨.int .u8 y,?_,rfl,Rd.i _ _ _⟩
  have H:(s.map λc=>(c.toNat:Int))[r]?=some y:=H
  rw[hV] at H
  show(s.map λb=>Value.int .u8 b.toNat)[r*1+0]?=_
  rw[show r*1+0=r by omega,hV]
  cases hc:s[r]? with
  |none=>rw[hc] at H;cases H
  |some c=>
   rw[hc] at H
   simp only[jc,cW] at H⊢
   have H:(c.toNat:Int)=y:=gA H
   rw[H]
 obtain⟨v',w2,ah,Q,_,aw,ai⟩:=Fi (ty:=22) (γ1:=n9 γ b) (g:=⟨n9 γ b,λ_=>0,λ_=>.bool true⟩) (WY aq) T hx src av (by rw[af];show 2*(List.length (α:=Int) (dB x)+List.length (α:=Int) (dB s))*1<=2^48;omega) (by show List.length (α:=Int) (dB x)+List.length (α:=Int) (dB s)<=2^62;omega);have U:w1.ownsRow 0 5 1 v x.length (x.map λc=>Value.int .u8 c.toNat):=by
  refine⟨N.1,?_⟩
  rcases N.2 with h|⟨g,D,Y,k1,k2,k3,k4⟩
  ·exact .inl h
  ·refine .inr ⟨g,D,Y,k1,k2,(C.2.1 g ?_).trans k3,k4⟩;rintro rfl;rw[M] at k3;simp at k3
 have ax:i.zero=some (.int .u8 0):=by
  have:(Tryz.prog.info? 5).bind (·.zero)=some (.int .u8 0):=by kernel_rfl
  rw[a1] at this
  exact this
 obtain⟨v3,w3,Z,aa,_,_⟩:=Lib.run_append_own_string (P:=Tryz.prog) w1 0 22 9 22 5 i Tryz.underlying22 Tryz.underlying9 a1 ax a3 af v x.length _ U ⟨⟨s⟩⟩ (by show x.length+s.length<=_;unfold maxLen;omega) hl (xD _);obtain⟨rfl,rfl⟩:v3=v'/\w3=w2:=by
  have:=Z.symm.trans Q
  injection this with e1 e2
  exact⟨e1,e2⟩
 obtain⟨ao,D,rfl,_⟩:=hx.Jt;obtain⟨k1,k2⟩:=ai.at' b (.box 0) [] afb (λ⟨n,e⟩=>by cases e);have aj:=k2.trans ae;have aA:dB (x++s)=dB x++dB s:=mG;have E:(x++s).length=x.length+s.length:=eS;rcases aa.2 with⟨_,h0⟩|⟨g,cap',Y,rfl,_,r3,r4,r5,r6,r7⟩
 ·have h0:x.length+s.length=0:=h0;omega
 have r4:x.length+s.length<=cap':=r4;refine Calls.mono (bwrite_walk ap ae Q aj) λe w' he=>?_;obtain⟨rfl,rfl⟩:=he;have A:=R5 (i:=1) (v:=.slice (some ⟨g,0,none⟩) (x.length+s.length) cap') aj;obtain⟨q,π,g2,ak,R,cs,e,fr,f,hm,hv,am,ab,_⟩:∃q p b o D cs e fr,∃f:Nat->Nat->Value,some (Rt.cC 0,([]:dh))=some (q,p)/\Value.slice (some ⟨g,0,none⟩) (x.length+s.length) cap'=.slice (some ⟨b,o,none⟩) (List.length (α:=Int) (dB x++dB s)) D/\(List.length (α:=Int) (dB x++dB s))<=D/\ah b=.at q (p++[tg (.int .u8)])/\cs=(cs:Array Value)/\e=(e:TypeId)/\fr=(fr:Nat×Nat)/\f=f:=by
  rcases aw.lu with⟨h0,_⟩|⟨q,π,g2,ak,R,cs,e,fr,f,hm,hv,am,ab,_⟩
  ·have h0:dB x++dB s=([]:List Int):=h0;have:=congrArg List.length h0;rw[eS] at this;simp only[jx] at this;omega
  ·exact⟨q,π,g2,ak,R,cs,e,fr,f,hm,hv,am,ab,rfl,rfl,rfl,rfl⟩
 simp only[cW,eE] at hm;obtain⟨rfl,rfl⟩:=hm;simp only[Value.slice.injEq,cW,Addr.mk.injEq] at hv;obtain⟨⟨rfl,_⟩,_⟩:=hv;have F:ah g=.at (.cC 0) [tg (.int .u8)]:=ab;have S:g≠b:=λe=>by
  rw[e,k1] at F
  cases F
 refine⟨iu γ g (.at (.cC 0) [(0,1),tg (.int .u8)]),rfl,ad8 hf I an C ai A.1 (λi=>?_),nX b,_,A.2,?_,.inr rfl,λ_=>.inr ⟨g,cap',Y,by rw[E],pO,(A.1.2.1 g S).trans r3,by rw[E];exact r4,by omega,r5,by omega,?_⟩⟩
 ·by_cases c:i=g
  ·subst c;exact .inr ⟨_,F⟩
  ·exact .inl (jK c)
 ·exact(jK (oy S)).trans I
 ·rw[E,mG,<-LL (x.length+s.length)];exact r7
variable(W)
theorem agK(n:Nat):kO W 170 (WW n):=by
 refine⟨enters Tryz.func170 (by kernel_rfl),λγ w j F(x:cq×cq×Unit)(y:Int×Bool×cq)H P A a=>?_⟩;obtain⟨c,s,_⟩:=x
 match j,A with
 |[Q,R],A=>
  obtain⟨I,J,S⟩:=A;obtain⟨b,rfl,M⟩:=I;obtain rfl:=sX J;have a:EX n c s=some y:=a;unfold EX at a;split at a
  ·rename_i u;injection a with a;subst a;refine Calls.mono (aaO H M u.1 u.2) λe w' N=>?_;obtain⟨C,rfl,D,E⟩:=N;exact⟨_,C,rfl,D,JY rfl rfl (Rd.i _ _ _) (Rd.sf _),⟨b,rfl,E⟩,trivial,trivial⟩
  ·cases a
end
end Go.Sd
namespace Go.Proofs
open Go.Shelf Go.RowKit
set_option maxHeartbeats 2000000 in
set_option maxRecDepth 100000 in
theorem bstring_walk{b g cap:Nat}{p:Value}{l:List UInt8}{cur:Array Value}{w:World}(hbk:w.heap[b]?=some (.cells #[p,.slice (some ⟨g,0,none⟩) l.length cap] 181 (0,0)))(hg:w.heap[g]?=some (.cells cur 5 (0,0)))
  (hn:l.length<=cap)(hc0:cap≠0)(hcm:cap<=maxLen)(hcs:cur.size=cap)(htake:cur.toList.take l.length=l.map λc=>Value.int .u8 c.toNat)(h0:l≠[]):
  Calls Tryz.prog 171 #[.pointer (some ⟨b,0,none⟩)] w λe w'=>e=.returned (.string ⟨l.toArray⟩)/\w'=w.drew.freeze ⟨g,0,none⟩ l.length:=by
 have c1:w.drew.cell? ⟨b,1,none⟩=some (.slice (some ⟨g,0,none⟩) l.length cap):=by
  have:w.drew.heap[b]?=some (.cells #[p,.slice (some ⟨g,0,none⟩) l.length cap] 181 (0,0)):=hbk
  rw[Lib.cell_of_heap this];rfl
 have hSD:(Builtin.unsafeSliceData_ #[22] 221 #[.slice (some ⟨g,0,none⟩) l.length cap]).run Tryz.prog w.drew=.ok (.pointer (some ⟨g,0,none⟩)) w.drew:=
  Lib.run_unsafeSliceData_row _ _ _ _ _ _ hc0;have hUS:(Builtin.unsafeString_ #[221,3] 9 #[.pointer (some ⟨g,0,none⟩),.int .i64 l.length]).run Tryz.prog w.drew=.ok (.string ⟨l.toArray⟩) (w.drew.freeze ⟨g,0,none⟩ l.length):=by
  have hg':w.drew.heap[g]?=some (.cells cur 5 (0,0)):=hg
  refine Lib.run_unsafeString_row w.drew 221 3 9 5 Tryz.underlying221 (by kernel_rfl) g cur.size (by simp[World.shape?,hg']) l h0 (by omega) (by unfold maxLen at hcm;omega) ?_
  intro j x hx
  rw[Addr.add_lit]
  have hj:j<l.length:=(eF.1 hx).1
  have hm:(l.map λc=>Value.int .u8 c.toNat)[j]?=some (.int .u8 x.toNat):=by rw[hV,hx];rfl
  have:cur.toList[j]?=some (.int .u8 x.toNat):=by
   rw[<-htake,oz,cJ hj] at hm
   exact hm
  simp only[World.cell?,hg']
  simpa using this
 go_enter Tryz.func171,Tryz.ntmps171
 go_wp2
 go_region
 all_goals(go_wp2;go_ret;exact⟨rfl,rfl⟩)
end Go.Proofs
namespace Go.Sd
open Go Go.RowKit
open Go.Ev hiding World Event Rd
open Go.Proofs hiding Enters
section
variable{γ:Nat->G}{w w':World}
theorem agL(W:World)(n:Nat):kO W 171 (WX n):=by
 refine⟨enters Tryz.func171 (by kernel_rfl),λγ w F Y(x:cq×Unit)(y:cq×cq)Z hG N C=>?_⟩;obtain⟨c,_⟩:=x
 match F,N with
 |[v1],N=>
  obtain⟨h1,h3⟩:=N;obtain⟨b,rfl,p,v,J,M,hp,H⟩:=h1;have C:Ip n c=some y:=C;unfold Ip at C;split at C
  ·rename_i u;injection C with C;subst C;have J:w.heap[b]?=some (.cells #[p,v] 181 (0,0)):=J;have M:γ b=.at (.cC 0) []:=M;rcases H u.2 with⟨_,D⟩|⟨g,aa,P,rfl,E,Q,e4,e5,e6,e7,e8⟩
   ·have D:c=[]:=D;rw[D] at u;simp at u
   have E:γ g=.at (.cC 0) [(0,1),tg (.int .u8)]:=E;have Q:w.heap[g]?=some (.cells P 5 (0,0)):=Q;have R:b≠g:=λe=>by
    rw[<-e,M] at E
    cases E
   have S:c≠[]:=λe=>by rw[e] at u;simp at u
   refine Calls.mono (bstring_walk J Q e4 (by omega) e6 e7 e8 S) λe w' he=>?_;obtain⟨rfl,rfl⟩:=he;have A:∀i,i≠g->(w.drew.freeze ⟨g,0,none⟩ c.length).heap[i]?=w.heap[i]?:=λi j=>by
    unfold World.freeze
    split
    ·rfl
    ·simp only[ah7];rw[cK (λe=>j e.symm)];rfl
   have I:(w.drew.freeze ⟨g,0,none⟩ c.length).heap.size=w.heap.size:=by
    unfold World.freeze
    split
    ·rfl
    ·simp only[Array.size_modify];rfl
   have a:(w.drew.freeze ⟨g,0,none⟩ c.length).tape=w.tape/\(w.drew.freeze ⟨g,0,none⟩ c.length).os=w.os/\(w.drew.freeze ⟨g,0,none⟩ c.length).output=w.output:=by
    unfold World.freeze
    split<;>exact⟨rfl,rfl,rfl⟩
   refine⟨_,γ,rfl,?_,Rd.s _ _,⟨b,rfl,p,_,(A b R).trans J,M,hp,λU=>?_⟩,trivial⟩
   ·exact{
     im:=λi j=>⟨j,A i (λe=>by rw[e,E] at j;cases j)⟩
     at':=λi q π j hx=>⟨j,A i (λe=>by rw[e,E] at j;cases j;exact hx ⟨0,rfl⟩)⟩
     fr:=λi _ D=>⟨D,A i (λe=>by rw[e,E] at D;cases D)⟩
     size:=by rw[I];exact hY _
     new:=λi j=>by rw[I] at j;exact Z i j
     tape:=a.1
     os:=a.2.1
     output:=a.2.2}
   ·have U:Pk.length<=140737488355328:=U;rw[aaN] at U;omega
  ·cases C
end
end Go.Sd
namespace Go.Proofs
open Go.Shelf Go.RowKit Go.Lib
set_option maxHeartbeats 4000000 in
set_option maxRecDepth 1000000 in
theorem del_walk{blk off len cap i j:Nat}{w W1 W2:World}{news:List Value}{A:Addr}{i0:TypeInfo}(hi0:Tryz.prog.info? 50=some i0)(hz1:i0.size=3)(hlt:i<j)(hj:j<=len)(hcap:len<=cap)
  (hA:(if cap=j then some (⟨blk,off,none⟩:Addr) else some ⟨blk,off+j*3,none⟩)=some A)(hsrc:Hid (∀t u,news[t]?=some u->w.drew.cell? (A.add t)=some u))
  (s1:Hid (news.length=(len-j)*3))(s2:Hid (∀u∈news,u.oneCell'=true))(s3:Hid (∀t,t<news.length->(w.drew.cell? ⟨blk,off+i*3+t,none⟩).isSome=true/\w.drew.frozen? ⟨blk,off+i*3+t,none⟩=false))
  (hW:Hid (W1=w.drew.setCells blk (off+i*3) news))
  (hcl:∀ty,(Builtin.clear_ #[46] ty #[.slice (some ⟨blk,off+(i+(len-j))*3,none⟩) (len-(i+(len-j))) (cap-(i+(len-j)))]).run Tryz.prog W1=.ok (.tuple #[]) W2):
  Calls Tryz.prog 189 #[.slice (some ⟨blk,off,none⟩) len cap,.int .i64 i,.int .i64 j] w λe w'=>e=.returned (.slice (some ⟨blk,off,none⟩) (i+(len-j)) cap)/\w'=W2:=by
 have hic:i<=cap:=by omega
 have hjc:j<=cap:=by omega
 have heq:¬ i=j:=by omega
 go_enter Tryz.func189,Tryz.ntmps189
 go_wp2_with fail
 go_region_law (refine step_append_room rfl (.tmp 22) (.tmp 25) 46 rfl 50 i0 3 Tryz.underlying46 hi0 hz1 blk off i cap (by simp[Act.eval,Act.put]) A (len-j) (cap-j) news (by simp[Act.eval,Act.put]) s1.out hsrc.out s2.out (by omega) s3.out ?_;rw[<-hW.out])
 go_wp2
 go_ret
 exact⟨rfl,rfl⟩
end Go.Proofs
namespace Go.Sd
open Go Go.RowKit
open Go.Ev hiding World Event Rd
open Go.Proofs hiding Enters
section
variable{W:World}{γ:Nat->G}{w w':World}
theorem aaP{b o c:Nat}{w:World}(x:∀t,t<3->(w.cell? ⟨b,o+t,none⟩).isSome=true)(y:∀t,t<3->w.frozen? ⟨b,o+t,none⟩=false)(A:TypeId):(Builtin.clear_ #[46] A #[.slice (some ⟨b,o,none⟩) 1 c]).run Tryz.prog w=.ok (.tuple #[]) (w.setCells b o [.int .i64 0,.int .i64 0,.int .i64 0]):=by
 have a:=run_storeCells_cells (P:=Tryz.prog) b o [.int .i64 0,.int .i64 0,.int .i64 0] 0 w (λj e=>by simpa using x j e) (λj e=>by simpa using y j e) (by simp[Value.oneCell']);rw[q6] at a;have C:=Tryz.zeroValue50 w;have u:(Builtin.zeroCells (Value.cells (.agg #[.int .i64 0,.int .i64 0,.int .i64 0])) 1).toList=[Value.int .i64 0,.int .i64 0,.int .i64 0]:=by kernel_rfl
 simp[Builtin.clear_,run_underlying Tryz.underlying46,C,u,a]
theorem Fa{d:Bool}{x:dj}{j:Nat}{a:TV}(h:(enc d .hold x)[j]?=some a):j<3/\∃z,a=.i .i64 z:=by
 match j with
 |0=>injection h with h;exact⟨by omega,_,h.symm⟩
 |1=>injection h with h;exact⟨by omega,_,h.symm⟩
 |2=>injection h with h;exact⟨by omega,_,h.symm⟩
 |j+3=>cases h
variable(W)
theorem agM(n:Nat):kO W 189 (WR n):=by
 refine⟨enters Tryz.func189 (by kernel_rfl),λγ w aj ay(x:List dj×Int×Int×Unit)(y:List dj)hf hG hP Q=>?_⟩;obtain⟨xs,i,j,_⟩:=x
 match aj,hP with
 |[v1,v2,v3],hP=>
  obtain⟨h1,h2,h3,h4⟩:=hP;obtain rfl:=y5 h2;obtain rfl:=y5 h3;have h1:Rd (dQ γ w) (some (.cC 0,[])) (.own true .hold xs) v1:=h1;have Q:yP n xs i j=some y:=Q;unfold yP at Q;split at Q
  ·rename_i aq;injection Q with Q;obtain⟨k0,k1,k2,k3⟩:=aq;obtain⟨i,rfl⟩:=gD k0;obtain rfl:j=((i+1:Nat):Int):=by omega
   rw[fB,fB] at Q;have R:i+1<=xs.length:=by omega
   rcases h1.lu with⟨S,_⟩|⟨q,π,b,a,cap,cs,e,fr,f,hm,rfl,hl,N,hh,hu,hs,hc,hr⟩
   ·have S:xs=[]:=S;rw[S] at R;simp at R
   simp only[cW,eE] at hm;obtain⟨rfl,rfl⟩:=hm;have N:γ b=.at (.cC 0) [tg .hold]:=N;have hh:w.heap[b]?=some (.cells cs e fr):=hh;have hl:xs.length<=cap:=hl;have hs:a+cap*3<=cs.size:=hs;have F:∀r c,r<xs.length->c<3->cs[a+r*3+c]?=some (f r c)/\(f r c).oneCell'=true:=λr c U Y=>by
    have hx:xs[r]?=some xs[r]:=eA U
    obtain⟨tv,au⟩:∃tv,(enc true .hold xs[r])[c]?=some tv:=⟨_,eA (show c<(enc true .hold xs[r]).length from Y)⟩
    obtain⟨Z,c2⟩:=hc r _ c tv hx au
    have Z:w.cell? ⟨b,a+r*3+c,none⟩=some (f r c):=Z
    simp only[World.cell?,hh] at Z
    exact⟨by simpa using Z,c2⟩
   have av:∀k,k<cs.size->w.frozen? ⟨b,k,none⟩=false:=λk E=>by
    have:=hu k E
    simp only[World.frozen?,hh]
    simpa using this
   obtain⟨news,H⟩:∃news,news=kc (xs.length-(i+1)) 3 (λr c=>f (i+1+r) c):=⟨_,rfl⟩;have aa:news.length=(xs.length-(i+1))*3:=by rw[H];exact pM
   have ab:∀t u,news[t]?=some u->t<(xs.length-(i+1))*3/\u=f (i+1+t/3) (t % 3):=λt u C=>by
    have ad:t<news.length:=(eF.1 C).1
    rw[aa] at ad
    have:=rq (n:=xs.length-(i+1)) (k:=3) (r:=t/3) (j:=t % 3) (f:=λr c=>f (i+1+r) c) (by omega) (by omega)
    rw[show t/3*3+t % 3=t by omega,<-H,C] at this
    injection this with this
    exact⟨ad,this⟩
   have M:∀k,k<xs.length*3->w.cell? ⟨b,a+k,none⟩=some (f (k/3) (k % 3)):=λk E=>by
    have:=(F (k/3) (k % 3) (by omega) (by omega)).1
    rw[show a+k/3*3+k % 3=a+k by omega] at this
    simp only[World.cell?,hh]
    simpa using this
   obtain⟨A,hA,ak⟩:∃A:Addr,(if cap=i+1 then(some ⟨b,a,none⟩:Option Addr) else some ⟨b,a+(i+1)*3,none⟩)=some A/\Hid (∀t u,news[t]?=some u->w.drew.cell? (A.add t)=some u):=by
    by_cases h:cap=i+1
    ·refine⟨⟨b,a,none⟩,by rw[cJ h],λt u C=>?_⟩;have:=(ab t u C).1;omega
    ·refine⟨⟨b,a+(i+1)*3,none⟩,by rw[cK h],λt u C=>?_⟩;obtain⟨ht,rfl⟩:=ab t u C;rw[Addr.add_lit,show a+(i+1)*3+t=a+((i+1)*3+t) by omega];refine(M ((i+1)*3+t) (by omega)).trans ?_;rw[show((i+1)*3+t)/3=i+1+t/3 by omega,show((i+1)*3+t) % 3=t % 3 by omega]
   have s2:Hid (∀u∈news,u.oneCell'=true):=λu C=>by
    obtain⟨t,ht⟩:=qo C
    obtain⟨ad,rfl⟩:=ab t u ht
    exact(F _ _ (by omega) (by omega)).2
   have s3:Hid (∀t,t<news.length->(w.drew.cell? ⟨b,a+i*3+t,none⟩).isSome=true/\w.drew.frozen? ⟨b,a+i*3+t,none⟩=false):=λt ht=>by
    rw[aa] at ht
    refine⟨?_,av _ (by omega)⟩
    have:=M (i*3+t) (by omega)
    rw[show a+(i*3+t)=a+i*3+t by omega] at this
    show(w.cell? _).isSome=true
    rw[this];rfl
   obtain⟨W1,am⟩:∃W1,W1=w.drew.setCells b (a+i*3) news:=⟨_,rfl⟩;have I:=j7 b news (a+i*3) w.drew;rw[<-am] at I;obtain⟨tU,g1,g2,g3,g4⟩:=I.this cs e fr hh;have Y:∀ty,(Builtin.clear_ #[46] ty #[.slice (some ⟨b,a+(i+(xs.length-(i+1)))*3,none⟩) (xs.length-(i+(xs.length-(i+1)))) (cap-(i+(xs.length-(i+1))))]).run Tryz.prog W1=.ok (.tuple #[]) (W1.setCells b (a+(i+(xs.length-(i+1)))*3) [.int .i64 0,.int .i64 0,.int .i64 0]):=λty=>by
    rw[show xs.length-(i+(xs.length-(i+1)))=1 by omega]
    refine aaP (λt ht=>?_) (λt ht=>?_) ty
    ·simp only[World.cell?,g1];have:a+(i+(xs.length-(i+1)))*3+t<tU.size:=by omega
     simp[this]
    ·have:=hu (a+(i+(xs.length-(i+1)))*3+t) (by omega);simp only[World.frozen?,g1];simpa using this
   obtain⟨ii,zz,a1,a2,a3,a4,a5⟩:=wG (T:=50) (k:=3) (by kernel_rfl);have ae:=del_walk a1 a3 (show i<i+1 by omega) R hl hA ak aa s2 s3 am Y;refine Calls.mono ae λe' w' he=>?_;obtain⟨rfl,rfl⟩:=he;have J:=j7 b [.int .i64 0,.int .i64 0,.int .i64 0] (a+(i+(xs.length-(i+1)))*3) W1;generalize W1.setCells b (a+(i+(xs.length-(i+1)))*3) [.int .i64 0,.int .i64 0,.int .i64 0]=W2 at J;obtain⟨af,d1,d2,d3,d4⟩:=J.this tU e fr g1;have az:b<w.heap.size:=kU hf b (by rw[N];simp);have aw:y.length=i+(xs.length-(i+1)):=by rw[<-Q,eS,kh,mF];omega
   have an:∀(r:Nat)(x:dj),y[r]?=some x->r<i+(xs.length-(i+1))/\xs[if r<i then r else r+1]?=some x:=λr x hx=>by
    have hr:r<y.length:=(eF.1 hx).1
    refine⟨by omega,?_⟩
    rw[<-Q] at hx
    by_cases c:r<i
    ·rw[cJ c];rw[oB (by rw[kh];omega),oz,cJ c] at hx;exact hx
    ·rw[cK c];rw[pG (by rw[kh];omega),kh,vp,show i+1+(r-min i xs.length)=r+1 by omega] at hx;exact hx
   refine⟨_,iu γ b (.at (.cC 3) [tg .hold]),rfl,?_,?_,trivial,trivial,trivial,trivial⟩
   ·have P:∀k,k≠b->W2.heap[k]?=w.heap[k]?:=λk E=>(J.other k E).trans (I.other k E);have ao:W2.heap.size=w.heap.size:=J.size.trans I.size;exact{
     im:=λk E=>by
      have D:k≠b:=λe=>by rw[e,N] at E;cases E
      exact⟨by rw[jK D];exact E,P k D⟩
     at':=λk q π E hx=>by
      have D:k≠b:=λe=>by rw[e,N] at E;cases E;exact hx ⟨0,rfl⟩
      exact⟨by rw[jK D];exact E,P k D⟩
     fr:=λk _ S=>by
      have D:k≠b:=λe=>by rw[e,N] at S;cases S
      exact⟨by rw[jK D];exact S,P k D⟩
     size:=by rw[ao];exact hY _
     new:=λk E=>by
      rw[ao] at E
      rw[jK (by omega)];exact hf k E
     tape:=J.tape.trans I.tape
     os:=J.os.trans I.os
     output:=J.output.trans I.output}
   ·have ap:Rd (dQ (iu γ b (.at (.cC 3) [tg .hold])) W2) (some (.cC 3,[])) (.own true .hold y) (.slice (some ⟨b,a,none⟩) y.length cap):=by
      refine Rd.kf (.cC 3) [] true .hold y b a cap af e fr (λr c=>f (if r<i then r else r+1) c) (by show List.length (α:=dj) y<=cap;omega) pO d1 (by rw[d2,g2];exact hu) (by show a+cap*3<=_;omega) (λr x c tv hx hj=>?_) λr x c tv hx hj=>?_
      ·obtain⟨U,ah⟩:=an r x hx;obtain⟨ai,_⟩:=Fa hj;have ax:(if r<i then r else r+1)<xs.length:=(eF.1 ah).1;obtain⟨Z,c2⟩:=F _ c ax ai;refine⟨?_,c2⟩;have hd:(dQ (iu γ b (.at (.cC 3) [tg .hold])) W2).w.heap[b]?=some (.cells af e fr):=d1;simp only[cellAt,World.cell?,hd];have g0:af[a+r*3+c]?=tU[a+r*3+c]?:=d4 _ (by simp;omega);have g5:tU[a+r*3+c]?=cs[a+(if r<i then r else r+1)*3+c]?:=by
        by_cases cr:r<i
        ·rw[cJ cr];exact g4 _ (by omega)
        ·rw[Z,cK cr];have:=g3 ((r-i)*3+c) (by omega) (by omega);rw[show a+i*3+((r-i)*3+c)=a+r*3+c by omega] at this;rw[this,H,rq (by omega) ai,show i+1+(r-i)=r+1 by omega]
       have g6:=g0.trans (g5.trans Z);simpa[cG] using g6
      ·obtain⟨U,ah⟩:=an r x hx;obtain⟨ai,z,rfl⟩:=Fa hj;have:=(hr _ x c _ ah hj).ka;rw[this];exact Rd.i _ _ _
    rw[show y.length=i+(xs.length-(i+1)) from aw] at ap;exact ap
  ·cases Q
end
end Go.Sd
namespace Go.Ev
def digs36:ByteArray:=⟨#[48,49,50,51,52,53,54,55,56,57,97,98,99,100,101,102,103,104,105,106,107,108,109,110,111,112,113,114,115,116,117,118,119,120,121,122]⟩
def dig1(v:Nat):UInt8:=([48,49,50,51,52,53,54,55,56,57,97,98,99,100,101,102]:List UInt8).getD v 0
theorem Zc:∀i:Fin 16,digs36[i.val]'(by have:=i.isLt;show _<36;omega)=dig1 i.val:=by decide+kernel
structure HexInv(u i v:Nat)(dk:Array UInt8):Prop where
 size:dk.size=65
 lo:50<=i
 hi:i<=65
 lt:v<16^(i-49)
 eq:hexDs 16 u=hexDs (i-49) v++dk.toList.drop i
theorem HexInv.start{u:Nat}(h:u<18446744073709551616){a:Array UInt8}(e:a.size=65):HexInv u 65 u a where
 size:=e
 lo:=by omega
 hi:=by omega
 lt:=by
  show u<16^16;exact h
 eq:=by
  rw[List.drop_eq_nil_of_le (by rw[C7];omega),G7]
theorem Qu{l:List UInt8}{i:Nat}(h:i<l.length)(x:UInt8):(l.set i x).drop i=x::l.drop (i+1):=by
 rw[kR (by rw[P9];exact h),List.getElem_set_self,List.drop_set,cJ (by omega)]
theorem HexInv.two{u i v:Nat}{a:Array UInt8}(h:HexInv u i v a)(x:16<=v):51<=i:=by
 have y:=h.lo;refine Db λj=>?_;have e:i=50:=by omega
 have:=h.lt;rw[e] at this;have:v<16:=this;omega
theorem HexInv.step{u i v:Nat}{j:Array UInt8}(h:HexInv u (i+1) v j)(a:16<=v):HexInv u i (v/16) (j.setIfInBounds i (dig1 (v % 16))) where
 size:=by rw[GZ];exact h.size
 lo:=by have:=h.two a;omega
 hi:=by have:=h.hi;omega
 lt:=by
  have x:=h.two a;have e:=h.lt;rw[show i+1-49=(i-49)+1 by omega,tZ] at e;exact P2 (by rw[vv];exact e)
 eq:=by
  have x:=h.two a;have y:=h.size;have e:=h.hi;rw[h.eq,show i+1-49=(i-49)+1 by omega,hexDs,cK (by omega),aif,Qu (by rw[C7];omega),jW];rfl
theorem HexInv.last{u i v:Nat}{a:Array UInt8}(h:HexInv u (i+1) v a)(e:v<16):(a.setIfInBounds i (dig1 v)).toList.drop i=hexDs 16 u:=by
 have j:=h.lo;have x:=h.size;have y:=h.hi;rw[h.eq,show i+1-49=(i-49)+1 by omega,hexDs,cJ e,aif,Qu (by rw[C7];omega)];rfl
end Go.Ev
namespace Go.Proofs
open Go.Shelf Go.RowKit Go.Lib Go.Sort Go.Ev Go.Sd
theorem tz16_86(w:World)(hT:w.cell? ⟨9,15,none⟩=some (.int .u8 4)):Calls Tryz.prog 286 #[.int .u64 16] w λe w'=>e=.returned (.int .i64 4)/\w'=w:=by
 have key:IntKind.u64.wrap (bits BinOp.and IntKind.u64 16 (IntKind.u64.wrap (-16))*285870213051353865)/288230376151711744=(15:Int):=by decide+kernel
 go_enter Tryz.func286,Tryz.ntmps286
 go_wp2_with (simp only[key])
 go_ret
 exact⟨rfl,rfl⟩
theorem tz16_54(w:World)(hT:w.cell? ⟨9,15,none⟩=some (.int .u8 4)):Calls Tryz.prog 254 #[.int .u64 16] w λe w'=>e=.returned (.int .i64 4)/\w'=w:=by
 go_enter Tryz.func254,Tryz.ntmps254
 go_wp2_with (go_at_call 286;refine(tz16_86 _ hT).mono ?_;rintro e w' ⟨rfl,rfl⟩)
 go_ret
 exact⟨rfl,rfl⟩
theorem pow16_53(w:World):Calls Tryz.prog 253 #[.int .i64 16] w λe w'=>e=.returned (.bool true)/\w'=w:=by
 have key:bits BinOp.and IntKind.i64 16 (16-1)=(0:Int):=by decide+kernel
 have key':bits BinOp.and IntKind.i64 16 15=(0:Int):=by decide+kernel
 go_enter Tryz.func253,Tryz.ntmps253
 go_wp2_with (simp only[key,key'])
 go_ret
 exact⟨rfl,rfl⟩
theorem zero253(w:World):Holds (λ(b:UInt8)=>Value.int .u8 (b.toNat:Int)) (w.alloc (.cells Tryz.zeroCells253 253)) w.heap.size 0 (Array.replicate 65 (0:UInt8)):=λj u=>by
 have a:j<65:=by simpa using u
 refine⟨?_,World.frozen?_alloc_new _ _ _ _⟩;have e:Tryz.zeroCells253=Array.replicate 65 (.int .u8 0):=by rfl
 rw[World.cell?_alloc_new,e,P5,ia,cJ a,Yy _ j u];simp
theorem idx36(z:Int)(i:Nat)(j:z=(i:Int))(u:i<16)(w:World):
  (Instr.index 9 (.string digs36) (.int .u64 z)).run Tryz.prog w=.ok (.int .u8 ((dig1 i).toNat:Int)) w:=by
 subst j;have a:digs36.size=36:=rfl;rw[run_index_string w 9 digs36 .u64 _ (by kernel_rfl),LK ⟨by omega,by rw[a];omega⟩];have e:((i:Int)).toNat=i:=by omega
 simp only[e];rw[Zc ⟨i,u⟩]
theorem below_put(w:World)(o:Obj)(j:Array UInt8)(n:Nat):Below w.heap.size w ((putRow (λ(b:UInt8)=>Value.int .u8 (b.toNat:Int)) (w.alloc o) w.heap.size 0 j).drewN n):=by
 obtain⟨a,_,e⟩:=putRow_grow_new (λ(b:UInt8)=>Value.int .u8 (b.toNat:Int)) w #[o] w.heap.size 0 j (hY _);rw[alloc_eq_grow,e];exact Rm w n a
set_option maxHeartbeats 4000000 in
set_option maxRecDepth 100000 in
theorem fbits(u:Nat)(hu:u<18446744073709551616)(w:World)(hs:9<w.heap.size)(hT:w.cell? ⟨9,15,none⟩=some (.int .u8 4)):Calls Tryz.prog 209 #[.slice none 0 0,.int .u64 u,.int .i64 16,.bool false,.bool false] w λe w'=>(∃v,e=.returned (.tuple #[v,.string ⟨⟨hexDs 16 u⟩⟩]))/\Below w.heap.size w w':=by
 go_enter Tryz.func209,Tryz.ntmps209
 go_name_bytes_deep 43 MSG hMSG
 clear hMSG
 go_name_bytes_deep 30 SM hSM
 have eSM:SM=digs36:=by rw[<-hSM];decide+kernel
 subst eSM;clear hSM
 go_wp2_with (first|(go_at_call 253;refine(pow16_53 _).mono ?_;rintro e w' ⟨rfl,rfl⟩)|(go_at_call 254;refine(tz16_54 _ (by first|(rw[World.cell?_alloc_lt (h:=by exact hs)];exact hT)|exact hT|(trace_state;exact(World.cell?_alloc_lt (h:=hs)).trans hT))).mono ?_;rintro e w' ⟨rfl,rfl⟩))
 go_loopw [1,13] (λvu vi wr=>∃(v i n:Nat)(dk:Array UInt8),vu=.int .u64 v/\vi=.int .i64 i/\wr=(putRow (λ(b:UInt8)=>Value.int .u8 (b.toNat:Int)) (w.alloc (.cells Tryz.zeroCells253 253)) w.heap.size 0 dk).drewN n/\Hid (HexInv u i v dk)) (λvu _ _=>(RowKit.intOf vu).toNat)
 case atStart=>exact⟨u,65,0,Array.replicate 65 0,rfl,rfl,(putRow_self _ _ _ _ _ (zero253 w)).symm,Lib.hid (HexInv.start hu (by rw[PZ]))⟩
 case round=>
  obtain⟨v,i,n,dk0,rfl,rfl,hw0,HI0⟩:=hrel
  rename World=>W0
  have hs0:=HI0.out.size;have hH0:Holds (λ(b:UInt8)=>Value.int .u8 (b.toNat:Int)) W0 w.heap.size 0 dk0:=by rw[hw0];exact holds_putRow _ _ _ 0 _ dk0 (zero253 w) (by rw[PZ];exact hs0)
  obtain⟨j,rfl⟩:∃j,i=j+1:=⟨i-1,by have:=HI0.out.lo;omega⟩;have hj:j<65:=by have:=HI0.out.hi;omega
  obtain⟨g0,hc0⟩:∃g:Int,W0.cell? ⟨w.heap.size,j,none⟩=some (.int .u8 g):=⟨_,by have:=(hH0 j (by omega)).1;rw[ia] at this;exact this⟩;have hf0:W0.frozen? ⟨w.heap.size,j,none⟩=false:=by have:=(hH0 j (by omega)).2;rw[ia] at this;exact this
  have AW0:=Lib.hid hw0;clear hw0 hH0
  by_cases h16:16<=v
  ·have key:bits BinOp.and IntKind.u64 (v:Int) 15=(v:Int) % 16:=by
     rw[show(15:Int)=((15:Nat):Int) from rfl,bits_and_u64_nat v 15 (by have:=HI0.out.lt;have:16^(j+1-49)<=16^16:=vz (by omega) (by omega);omega) (by omega),show v&&&15=v % 16 from Nat.and_two_pow_sub_one_eq_mod v 4]
     rfl
   have hX:∀w,(Instr.index 9 (.string digs36) (.int .u64 ((v:Int) % 16))).run Tryz.prog w=.ok (.int .u8 ((dig1 (v % 16)).toNat:Int)) w:=idx36 _ _ (by omega) (by omega);have HI1:=Lib.hid (HI0.out.step h16)
   go_wp2
   refine⟨⟨v/16,j,n,_,by rw[Int.natCast_ediv];rfl,rfl,?_,HI1⟩,?_⟩
   ·rw[AW0.out];have e:=store1_world (w.alloc (.cells Tryz.zeroCells253 253)) w.heap.size 0 dk0 n j (dig1 (v % 16)) (by omega);rw[ia] at e;exact e
   ·show((v:Int)/16).toNat<(v:Int).toNat;omega
  ·have hX:∀w,(Instr.index 9 (.string digs36) (.int .u64 (v:Int))).run Tryz.prog w=.ok (.int .u8 ((dig1 v).toNat:Int)) w:=idx36 _ _ rfl (by omega);have hL:=HI0.out.last (by omega);have hl:(hexDs 16 u).length=65-j:=by rw[<-hL,mF,C7,GZ,hs0]
   have hw1:W0.setCell ⟨w.heap.size,j,none⟩ (.int .u8 ((dig1 v).toNat:Int))=(putRow (λ(b:UInt8)=>Value.int .u8 (b.toNat:Int)) (w.alloc (.cells Tryz.zeroCells253 253)) w.heap.size 0 (dk0.setIfInBounds j (dig1 v))).drewN n:=by
    rw[AW0.out]
    have e:=store1_world (w.alloc (.cells Tryz.zeroCells253 253)) w.heap.size 0 dk0 n j (dig1 v) (by omega)
    rw[ia] at e
    exact e
   have hsl:∀W,(Instr.sliceAt 253 (.pointer (some ⟨w.heap.size,0,none⟩)) (some (.int .i64 (j:Int))) none none).run Tryz.prog W=.ok (.slice (some ⟨w.heap.size,j,none⟩) (65-j) (65-j)) W:=λW=>by
    have ha:Tryz.prog.arrayLen 253=65:=by kernel_rfl
    have hz:Tryz.prog.elem 253=5:=by kernel_rfl
    rw[run_sliceAt_array_l W 253 ⟨w.heap.size,0,none⟩ (by kernel_rfl) .i64 (j:Int) (by omega) (by rw[ha];omega),ha,hz,Tryz.sizeOf5]
    simp[slicedAt]
    rw[cK (by omega),Lib.add_plain,ia]
   have hcv:(convert 22 9 (.slice (some ⟨w.heap.size,j,none⟩) (65-j) (65-j))).run Tryz.prog ((putRow (λ(b:UInt8)=>Value.int .u8 (b.toNat:Int)) (w.alloc (.cells Tryz.zeroCells253 253)) w.heap.size 0 (dk0.setIfInBounds j (dig1 v))).drewN n)=.ok (.string ⟨⟨hexDs 16 u⟩⟩) ((putRow (λ(b:UInt8)=>Value.int .u8 (b.toNat:Int)) (w.alloc (.cells Tryz.zeroCells253 253)) w.heap.size 0 (dk0.setIfInBounds j (dig1 v))).drewN n):=by
    have h:=run_convert_bytes_back (P:=Tryz.prog) ((putRow (λ(b:UInt8)=>Value.int .u8 (b.toNat:Int)) (w.alloc (.cells Tryz.zeroCells253 253)) w.heap.size 0 (dk0.setIfInBounds j (dig1 v))).drewN n) 22 9 5 ⟨w.heap.size,j,none⟩ (65-j) (hexDs 16 u) (by kernel_rfl) (by kernel_rfl) (by kernel_rfl) (λt ht=>by
     rw[Lib.add_plain,World.cell?_drewN]
     have hc:=cell?_putRow (λ(b:UInt8)=>Value.int .u8 (b.toNat:Int)) _ w.heap.size 0 _ (dk0.setIfInBounds j (dig1 v)) (zero253 w) (by rw[PZ,GZ,hs0]) (j+t) (by rw[GZ,hs0];omega)
     rw[ia] at hc
     rw[hc,Yy _ (j+t) (by rw[GZ,hs0];omega)]
     simp only[<-hL,YQ,Array.getElem_toList])
    rw[hl] at h
    exact h
   go_wp2
   go_ret2
   refine⟨⟨_,rfl⟩,?_⟩;exact below_put w _ _ n
theorem fuint_225(u:Nat)(hu:u<18446744073709551616)(w:World)(hs:9<w.heap.size)(hT:w.cell? ⟨9,15,none⟩=some (.int .u8 4)):Calls Tryz.prog 225 #[.int .u64 u,.int .i64 16] w λe w'=>e=.returned (.string ⟨⟨hexDs 16 u⟩⟩)/\Below w.heap.size w w':=by
 go_enter Tryz.func225,Tryz.ntmps225
 go_wp2_with (go_at_call 209;refine(fbits u hu w hs hT).mono ?_;rintro e w' ⟨⟨v,rfl⟩,hB⟩)
 go_ret
 exact⟨rfl,hB⟩
theorem fuint_178(u:Nat)(hu:u<18446744073709551616)(w:World)(hs:9<w.heap.size)(hT:w.cell? ⟨9,15,none⟩=some (.int .u8 4)):Calls Tryz.prog 178 #[.int .u64 u,.int .i64 16] w λe w'=>e=.returned (.string ⟨⟨hexDs 16 u⟩⟩)/\Below w.heap.size w w':=by
 go_enter Tryz.func178,Tryz.ntmps178
 go_wp2_with (go_at_call 225;refine(fuint_225 u hu w hs hT).mono ?_;rintro e w' ⟨rfl,hB⟩)
 go_ret
 exact⟨rfl,hB⟩
end Go.Proofs
namespace Go.Sd
open Go Go.Ev Go.Proofs Go.RowKit Go.Shelf
section
variable{W:World}{γ:Nat->G}{w w':World}
variable(W)
theorem agN(hW:ov W)(n:Nat):kO W 178 (WO n):=by
 refine⟨enters Tryz.func178 (by kernel_rfl),λγ w A M x y I N C u=>?_⟩;obtain⟨s,a,_⟩:=x
 match A,C with
 |[v1,v2],C=>
  obtain⟨P,Q,h3⟩:=C;obtain rfl:=y5 P;obtain rfl:=y5 Q;have u:ya n s a=some y:=u;unfold ya at u;split at u
  ·rename_i D;injection u with u;subst u;obtain⟨rfl,E,R⟩:=D;obtain⟨c,rfl⟩:=gD E;have J:=(PG hW N (show 9<10 by omega)).2;have S:w.cell? ⟨9,15,none⟩=some (.int .u8 4):=(R4 (j:=0) J 15).trans hW.tz;have F:9<w.heap.size:=by
    refine Db λH=>?_
    have e:=J
    rw[xH H,ju (show 9<W.heap.size by have:=hW.sz;omega)] at e
    cases e
   have U:Calls Tryz.prog 178 #[.int .u64 (c:Int),.int .i64 16] w _:=fuint_178 c (by omega) w F S;refine Calls.mono U λe w' Y=>?_;obtain⟨rfl,Z⟩:=Y;exact⟨_,γ,rfl,rn I Z (kU I),Rd.s _ _,trivial,trivial,trivial⟩
  ·cases u
end
end Go.Sd
namespace Go.Proofs
open Go.Shelf Go.RowKit Go.Lib
set_option maxHeartbeats 4000000 in
set_option maxRecDepth 1000000 in
theorem ins_end{base:Option Addr}{n c:Nat}{bv:Addr}{cv:Nat}{v':Value}{w w':World}(hn:n<=c)
  (hr:(Builtin.append_ #[46,46] 46 #[.slice base n c,.slice (some bv) 1 cv]).run Tryz.prog w=.ok v' w'):
  Calls Tryz.prog 187 #[.slice base n c,.int .i64 n,.slice (some bv) 1 cv] w λe w2=>e=.returned v'/\w2=w':=by
 go_enter Tryz.func187,Tryz.ntmps187
 go_wp2_with (at_builtin;refine wpList_append_run rfl _ _ 46 46 rfl rfl rfl rfl hr ?_)
 all_goals(go_ret;exact⟨rfl,rfl⟩)
set_option maxHeartbeats 4000000 in
set_option maxRecDepth 1000000 in
theorem ins_room{b off n c i vb voff cv:Nat}{x1 x2:Value}{w W1 W2:World}(hi:i<n)(hroom:n+1<=c)(hn63:n<=4611686018427387904)
  (hov:∀lb cb,(callFunc 231 #[.slice (some ⟨vb,voff,none⟩) 1 cv,.slice (some ⟨b,off+(i+1)*3,none⟩) lb cb]).run Tryz.prog w=.ok (.value (.bool false)) w)
  (hcp1:∀ty dc sc,(Builtin.copy_ #[46,46] ty #[.slice (some ⟨b,off+(i+1)*3,none⟩) (n+1-(i+1)) dc,.slice (some ⟨b,off+i*3,none⟩) (n+1-i) sc]).run Tryz.prog w.drew=.ok x1 W1)
  (hcp2:∀ty dc,(Builtin.copy_ #[46,46] ty #[.slice (some ⟨b,off+i*3,none⟩) (n+1-i) dc,.slice (some ⟨vb,voff,none⟩) 1 cv]).run Tryz.prog W1=.ok x2 W2):
  Calls Tryz.prog 187 #[.slice (some ⟨b,off,none⟩) n c,.int .i64 i,.slice (some ⟨vb,voff,none⟩) 1 cv] w λe w2=>e=.returned (.slice (some ⟨b,off,none⟩) (n+1) c)/\w2=W2:=by
 have hz2:¬ ((i:Int)=(n:Int)):=by omega
 have hw1:IntKind.i64.wrap ((i:Int)+1)=(i:Int)+1:=by rw[IntKind.wrap_i64];omega
 have hb1:(0:Int)<=(i:Int)+1:=by omega
 have hin:i<=n:=by omega
 have htn:((i:Int)+1).toNat=i+1:=by omega
 have hb2:¬ (c=i+1):=by omega
 have hb3:(i:Int)<=(n:Int)+1:=by omega
 have hb4:¬ (c=i):=by omega
 go_enter Tryz.func187,Tryz.ntmps187
 go_wp2_with (simp only[hov])
 go_region_law (refine step_copy_runI rfl _ _ 46 46 rfl _ _ (by simp[Act.eval,Act.put]) (by simp[Act.eval,Act.put]) (hcp1 _ (c-(i+1)) (c-i)) ?_)
 go_wp2_with (at_builtin;refine wpList_copy_runI _ rfl _ _ 46 46 rfl _ _ rfl rfl (hcp2 _ _) ?_)
 go_ret
 exact⟨rfl,rfl⟩
set_option maxHeartbeats 4000000 in
set_option maxRecDepth 1000000 in
theorem ins_grow{b off n c i vb voff cv nb c':Nat}{x1 x2:Value}{w W1 W2 W3:World}(hi:i<n)(hnc:n<=c)(hroom:c<n+1)(hc':n+1<=c')(hn63:n<=4611686018427387904)
  (hap:(Builtin.append_ #[46,3] 46 #[.slice (some ⟨b,off,none⟩) i c,.int .i64 ((n:Int)+1-i)]).run Tryz.prog w=.ok (.slice (some ⟨nb,0,none⟩) (n+1) c') W1)
  (hcp2:∀ty,(Builtin.copy_ #[46,46] ty #[.slice (some ⟨nb,i*3,none⟩) (n+1-i) (c'-i),.slice (some ⟨vb,voff,none⟩) 1 cv]).run Tryz.prog W1=.ok x1 W2)
  (hcp1:∀ty,(Builtin.copy_ #[46,46] ty #[.slice (some ⟨nb,(i+1)*3,none⟩) (n+1-(i+1)) (c'-(i+1)),.slice (some ⟨b,off+i*3,none⟩) (n-i) (c-i)]).run Tryz.prog W2.drew=.ok x2 W3):
  Calls Tryz.prog 187 #[.slice (some ⟨b,off,none⟩) n c,.int .i64 i,.slice (some ⟨vb,voff,none⟩) 1 cv] w λe w2=>e=.returned (.slice (some ⟨nb,0,none⟩) (n+1) c')/\w2=W3:=by
 have hz2:¬ ((i:Int)=(n:Int)):=by omega
 have hw1:IntKind.i64.wrap ((i:Int)+1)=(i:Int)+1:=by rw[IntKind.wrap_i64];omega
 have hb1:(0:Int)<=(i:Int)+1:=by omega
 have hin:i<=n:=by omega
 have htn:((i:Int)+1).toNat=i+1:=by omega
 have hb2:¬ (c'=i+1):=by omega
 have hb3:(i:Int)<=(n:Int)+1:=by omega
 have hb4:¬ (c=i):=by omega
 have hb5:¬ (c'=i):=by omega
 go_enter Tryz.func187,Tryz.ntmps187
 go_wp2_with (at_builtin;first|refine wpList_append_run rfl _ _ 46 3 rfl rfl rfl rfl hap ?_|refine wpList_copy_runI _ rfl _ _ 46 46 rfl _ _ rfl rfl (hcp2 _) ?_)
 go_region_law (refine step_copy_runI rfl _ _ 46 46 rfl _ _ (by simp[Act.eval,Act.put]) (by simp[Act.eval,Act.put]) (hcp1 _) ?_)
 go_wp2
 go_ret
 exact⟨rfl,rfl⟩
end Go.Proofs
namespace Go.Sd
open Go Go.RowKit
open Go.Ev hiding World Event Rd
open Go.Proofs hiding Enters
section
variable{W:World}{γ:Nat->G}{w w':World}
theorem IW{P:Program}(w:World)(H J M e:TypeId)(b o u A:Nat)(a:Addr)(x C k:Nat)(y:List Value)
  (N:P.underlying H=some (.slice e))(I:(P.info? e).map (·.size)=some 3)(Q:k=Nat.min x u)(R:y.length=k*3)
  (D:∀j v,y[j]?=some v->w.cell? (a.add j)=some v)(S:∀j,j<y.length->(w.cell? ⟨b,o+j,none⟩).isSome=true)(U:∀j,j<y.length->w.frozen? ⟨b,o+j,none⟩=false)(Y:∀v∈y,v.oneCell'=true):
  (Builtin.copy_ #[H,J] M #[.slice (some ⟨b,o,none⟩) u A,.slice (some a) x C]).run P w=.ok (goInt k) (w.setCells b o y):=by
 have Z:=run_loadCells_list (P:=P) w a y D;have E:=run_storeCells_cells (P:=P) b o y 0 w (by simpa using S) (by simpa using U) Y;cases F:P.info? e with
 |none=>simp[F] at I
 |some i=>
  have hi:i.size=3:=by simpa[F] using I
  simp[Builtin.copy_,run_underlying N,Builtin.lenOf,Builtin.firstCells,sizeOf,typeInfo,F,hi,<-Q,<-R,Z,E]
theorem Y6{P:Program}(w:World)(u Z e:TypeId)(R:P.underlying u=some (.slice e))(j:Nat)(S:∀w,(Go.sizeOf e).run P w=.ok j w)
  (a b:Addr)(D ca E cb:Nat)(x:a.block≠b.block)(tA tB:TypeId)(kA U:Nat)
  (F:w.shape? a.block=some (tA,kA))(H:w.shape? b.block=some (tB,U))(I:kA≠0)
  (J:w.frozen? b=false)(M:w.frozen? {block:=b.block,off:=U}=false):
  (Extern.SlicesOverlaps.overlaps #[u,u] #[Z] #[.slice (some a) D ca,.slice (some b) E cb]).run P w=.ok (.bool false) w:=by
 have N:(a.block !=b.block)=true:=by simpa using x
 have y:(a.block==b.block)=false:=by simpa using x
 change Sem.run P (α:=Value) (do
  let some t:=(#[u,u]:Array TypeId)[0]?|stuck "slices.overlaps: no parameter types"
  let .slice A<-underlying t|stuck "slices.overlaps: slice type expected"
  let j<-sizeOf A
  match(some a:Option Addr),(some b:Option Addr) with
  |some a,some b=>
   if D=0\/E=0\/j=0 then pure (Value.bool false)
   else if a.block !=b.block&&(<-frozen a)&&(<-frozen b) then unsupported .addressObserved
   else do
    if a.block !=b.block then do
     noView a;noView b
     if<-mayBeOne a b then return Value.bool ((<-choose _)==1)
    pure (Value.bool (a.block==b.block&&a.off<b.off+E*j&&b.off<a.off+D*j))
  |_,_=>pure (Value.bool false)) w=_
 by_cases Y:D=0\/E=0\/j=0
 ·simp[run_underlying R,S,Y]
 ·cases kA with
  |zero=>exact absurd rfl I
  |succ kA=>
   cases Q:w.frozen? a<;>cases C:w.frozen? {block:=a.block,off:=kA+1}<;>simp[run_underlying R,S,Y,N,y,frozen,noView,viewAt,mayBeOne,stringish,shape,Sem.run,F,H,J,M,Q,C]
def tvV:TV->Value|.i k z=>.int k z|_=>undef
def hC(a:List dj)(r c:Nat):Value:=match a[r]? with
 |some x=>tvV ((enc true .hold x).getD c .un)
 |none=>undef
theorem Kl{d:Bool}{a:List dj}{r c:Nat}{x:dj}(hx:a[r]?=some x)(e:c<3):∃z,(enc d .hold x)[c]?=some (.i .i64 z)/\hC a r c=.int .i64 z:=by
 simp only[hC,hx]
 match c,e with
 |0,_=>exact⟨_,rfl,rfl⟩
 |1,_=>exact⟨_,rfl,rfl⟩
 |2,_=>exact⟨_,rfl,rfl⟩
theorem y7{a:List dj}{r c:Nat}(e:r<a.length)(j:c<3):(hC a r c).oneCell'=true:=by
 obtain⟨z,_,h⟩:=Kl (d:=true) (eA e) j;rw[h];rfl
theorem Mz{rc:Rc}{d:Bool}{e:List dj}{M:Nat->Nat->Option Gp}{b a:Nat}{f:Nat->Nat->Value}
  (D:∀(r:Nat)(x:dj)(j:Nat)u,e[r]?=some x->(enc d .hold x)[j]?=some u->cellAt rc.w b (a+r*3+j)=some (f r j)/\(f r j).oneCell'=true)
  (E:∀(r:Nat)(x:dj)(j:Nat)u,e[r]?=some x->(enc d .hold x)[j]?=some u->Rd rc (M r j) u (f r j)):
  ∀r c,r<e.length->c<3->rc.w.cell? ⟨b,a+r*3+c,none⟩=some (hC e r c):=λr c y A=>by
 have hx:=eA y;obtain⟨z,C,F⟩:=Kl (d:=d) hx A;rw[F,<-(E r _ c _ hx C).ka];exact(D r _ c _ hx C).1
theorem NC{γ':Nat->G}{C:World}{y:List dj}{b off cap:Nat}{u:Array Value}{e:TypeId}{fr:Nat×Nat}(F:y.length<=cap)(H:γ' b=.at (.cC 3) [tg .hold])(D:C.heap[b]?=some (.cells u e fr))(I:mz .hold u.size fr)(J:off+cap*3<=u.size)
  (M:∀r c,r<y.length->c<3->u[off+r*3+c]?=some (hC y r c)):Rd (dQ γ' C) (some (.cC 3,[])) (.own true .hold y) (.slice (some ⟨b,off,none⟩) y.length cap):=by
 refine Rd.kf (.cC 3) [] true .hold y b off cap u e fr (hC y) F H D I J (λr x c N hx A=>?_) λr x c N hx A=>?_
 ·have E:r<y.length:=(eF.1 hx).1;obtain⟨a,_⟩:=Fa A;refine⟨?_,y7 E a⟩;have P:(dQ γ' C).w.heap[b]?=some (.cells u e fr):=D;simp only[cellAt,World.cell?,P];simpa[cG] using M r c E a
 ·obtain⟨a,z,rfl⟩:=Fa A;obtain⟨S,Q,R⟩:=Kl (d:=true) hx a;have j:=Q.symm.trans A;injection j with j;rw[R,<-j];exact Rd.i _ _ _
theorem VR{a:List dj}{v:dj}{i r c:Nat}(u:i<=a.length):hC (a.take i++[v]++a.drop i) r c=if r<i then hC a r c else if r=i then hC [v] 0 c else hC a (r-1) c:=by
 have e:(a.take i++[v]++a.drop i)[r]?=if r<i then a[r]? else if r=i then some v else a[r-1]?:=by
  by_cases h:r<i
  ·rw[cJ h,jW,oB (by rw[kh];omega),oz,cJ h]
  ·rw[cK h,jW,pG (by rw[kh];omega),kh]
   by_cases j:r=i
   ·rw[cJ j,j,show i-min i a.length=0 by omega];rfl
   ·rw[cK j,pG (by simp;omega),vp]
    congr 1
    simp;omega
 unfold hC;rw[e]
 by_cases h:r<i
 ·simp only[cJ h]
 ·by_cases j:r=i
  ·simp only[cK h,cJ j,qp]
  ·simp only[cK h,cK j]
end
section
variable{W:World}{γ:Nat->G}{w w':World}
theorem acg{j:Nat->G}{g:Nat}(e:dA (λq _=>∃n,q=.cC n) γ w j w')(y:j g=.at (.cC 0) [tg .hold]):dA (λq _=>∃n,q=.cC n) γ w (iu j g (.at (.cC 3) [tg .hold])) w' where
 im:=λb u=>by
  obtain⟨a,x⟩:=e.im b u;have:b≠g:=by rintro rfl;rw[y] at a;cases a
  exact⟨by rw[jK this];exact a,x⟩
 at':=λb q p u hx=>by
  obtain⟨a,x⟩:=e.at' b q p u hx;have:b≠g:=by rintro rfl;rw[y] at a;cases a;exact hx ⟨0,rfl⟩
  exact⟨by rw[jK this];exact a,x⟩
 fr:=λb u A=>by
  obtain⟨a,x⟩:=e.fr b u A;have:b≠g:=by rintro rfl;rw[y] at a;cases a
  exact⟨by rw[jK this];exact a,x⟩
 size:=e.size
 new:=λb u=>by
  have a:=e.new b u;have:b≠g:=by rintro rfl;rw[y] at a;cases a
  rw[jK this];exact a
 tape:=e.tape
 os:=e.os
 output:=e.output
theorem R6{n k t:Nat}{f:Nat->Nat->Value}{u:Value}(e:0<k)(h:(kc n k f)[t]?=some u):t<n*k/\t/k<n/\t % k<k/\u=f (t/k) (t % k):=by
 have a:t<n*k:=by
  have:=(eF.1 h).1
  rwa[pM] at this
 have j:t/k<n:=P2 (by rw[vv];exact a);refine⟨a,j,LN _ e,?_⟩;have:=rq (f:=f) j (LN t e);rw[vv,P3,h] at this;exact gA this
theorem Km:(Tryz.prog.info? 50).map (·.size)=some 3:=by kernel_rfl
theorem Cw{n:Nat}{f:Nat->Nat->Value}{b o:Nat}(h:∀r c,r<n->c<3->w.cell? ⟨b,o+r*3+c,none⟩=some (f r c)):∀j v,(kc n 3 f)[j]?=some v->w.cell? ((⟨b,o,none⟩:Addr).add j)=some v:=λj v a=>by
 obtain⟨x,e,u,rfl⟩:=R6 (by omega) a;have:=h _ _ e u;rw[show o+j/3*3+j % 3=o+j by omega] at this;rw[Addr.add_lit];exact this
theorem EG{n:Nat}{f:Nat->Nat->Value}(h:∀r c,r<n->c<3->(f r c).oneCell'=true):∀v∈kc n 3 f,v.oneCell'=true:=λv a=>by
 obtain⟨t,e⟩:=qo a;obtain⟨x,j,u,rfl⟩:=R6 (by omega) e;exact h _ _ j u
theorem af8{a j b o cv:Nat}{x:Array Value}{e:TypeId}{fr:Nat×Nat}{u:Value}(A:a≠b)(y:w.cell? ⟨a,j,none⟩=some u)(C:w.heap[b]?=some (.cells x e fr))(J:mz .hold x.size fr)(M:o<x.size):
  ∀D cb,(callFunc 231 #[.slice (some ⟨a,j,none⟩) 1 cv,.slice (some ⟨b,o,none⟩) D cb]).run Tryz.prog w=.ok (.value (.bool false)) w:=λD cb=>by
 have N:=J.mrk rfl;have P:=J o M;obtain⟨kA,E,F⟩:∃kA E,w.shape? a=some (E,kA+1):=by
  simp only[World.cell?] at y
  split at y
  ·rename_i c Q S H;have R:j<c.size:=by
    rcases xJ j c.size with h|h
    ·exact h
    ·simp[xH h] at y
   exact⟨c.size-1,Q,by simp only[World.shape?,H];rw[show c.size-1+1=c.size by omega]⟩
  ·cases y
 have I:w.shape? b=some (e,x.size):=by simp only[World.shape?,C]
 obtain⟨U,Y⟩:=fr;rw[run_callFunc_extern Tryz.func231 (by kernel_rfl) (by kernel_rfl) (by kernel_rfl) (e:=Extern.SlicesOverlaps.overlaps #[46,46] #[4]) (by kernel_rfl),
  Y6 w 46 4 50 Tryz.underlying46 3 Tryz.sizeOf50 ⟨a,j,none⟩ ⟨b,o,none⟩ 1 cv D cb A E e (kA+1) x.size F I (by omega)
   (by simp only[World.frozen?,C];simpa using P) (by simp only[World.frozen?,C];simpa using N)];rfl
end
section
variable{W:World}{γ:Nat->G}{w w':World}
theorem agO{x:List dj}{v:dj}{v1:Value}{N P cv:Nat}(hf:∀b,w.heap.size<=b->γ b=.fr)(h1:Rd (dQ γ w) (some (.cC 0,[])) (.own true .hold x) v1)
  (R:∀r c,r<1->c<3->w.cell? ⟨N,P+r*3+c,none⟩=some (hC [v] r c))(hn:x.length<4294967296):
  Calls Tryz.prog 187 #[v1,.int .i64 (x.length:Nat),.slice (some ⟨N,P,none⟩) 1 cv] w λe w'=>∃u F,e=.returned u/\dA (λq _=>∃n,q=.cC n) γ w F w'/\Rd (dQ F w') (some (.cC 3,[])) (.own true .hold (x++[v])) u:=by
 obtain⟨a,cap,rfl,A⟩:=h1.Jt;have A:x.length<=cap:=A;obtain⟨i,z,a1,a2,a3,a4,a5⟩:=wG (T:=50) (k:=3) (by kernel_rfl);have hx:Rd (Gs.rc zM ⟨γ,λ_=>0,λ_=>.bool true⟩ w) (some (.cC 0,[])) (.own true .hold x) (.slice a x.length cap):=
  Rd.same (c':=Gs.rc zM ⟨γ,λ_=>0,λ_=>.bool true⟩ w) h1 (λb S=>⟨S,rfl⟩) (λq p he b π S=>⟨S,rfl⟩) (λk H=>by cases H) (λk H=>by cases H) (λk H=>by cases H);have T:KU Tryz.prog 46 46 .hold 50 i z:=⟨Tryz.underlying46,a1,a2,a3,a4,.inl ⟨_,Tryz.underlying46⟩⟩;have src:Src Tryz.prog (cG .hold) 46 (.slice (some ⟨N,P,none⟩) 1 cv) 1 (kc 1 3 (hC [v])) w:=
  Src.ofSlice w Tryz.underlying46 ⟨N,P,none⟩ 1 cv _ (by rw[pM];rfl) (Cw R) (EG λr c D U=>y7 (by simpa using D) U);have Y:ly (Gs.rc zM ⟨γ,λ_=>0,λ_=>.bool true⟩ w) true .hold [v] (kc 1 3 (hC [v])):=⟨by rw[pM];rfl,λr y j tv hy hj=>by
  obtain⟨C,z,rfl⟩:=Fa hj
  have D:r<1:=(eF.1 hy).1
  obtain⟨z',e1,e2⟩:=Kl (d:=true) hy C
  have:=e1.symm.trans hj
  injection this with this
  cases this
  have e3:hC [v] r j=.int .i64 z:=e2
  exact⟨hC [v] r j,rq D C,y7 D C,(show Rd _ _ _ (hC [v] r j) from by rw[e3];exact Rd.i _ _ _)⟩⟩;obtain⟨v',w2,I,J,_,Z,aa⟩:=Fi (ty:=46) (γ1:=γ) (g:=⟨γ,λ_=>0,λ_=>.bool true⟩) (WY hf) T hx src Y
  (by show 2*(List.length (α:=dj) x+1)*i.bytes<=2^48
      have:2*(List.length (α:=dj) x+1)*i.bytes<=2*4294967296*1000:=LO (by omega) a5
      omega) (by show List.length (α:=dj) x+1<=2^62;omega);refine Calls.mono (ins_end A J) λe' w' he=>?_;obtain⟨rfl,rfl⟩:=he;rcases Z.lu with⟨h0,_⟩|⟨q,π,g2,ab,af,cs,e,fr,f,hm,rfl,ad,E,Q,hu,hs,U,D⟩
 ·have h0:x++[v]=[]:=h0;simp at h0
 simp only[cW,eE] at hm;obtain⟨rfl,rfl⟩:=hm;have E:I g2=.at (.cC 0) [tg .hold]:=E;have Q:w'.heap[g2]?=some (.cells cs e fr):=Q;have ae:=Mz (rc:=Gs.rc zM ⟨I,λ_=>0,λ_=>.bool true⟩ w') U D;refine⟨_,_,rfl,acg aa E,NC ad pO Q hu hs λr c D C=>?_⟩;have M:w'.cell? ⟨g2,ab+r*3+c,none⟩=some (hC (x++[v]) r c):=ae r c D C;simp only[World.cell?,Q] at M;simpa using M
theorem agP{x:List dj}{v:dj}{i N vo cv b a P:Nat}{cs:Array Value}{e:TypeId}{fr:Nat×Nat}(hf:∀b,w.heap.size<=b->γ b=.fr)
  (I:γ b=.at (.cC 0) [tg .hold])(hh:w.heap[b]?=some (.cells cs e fr))(hl:x.length+1<=P)(hu:mz .hold cs.size fr)(hs:a+P*3<=cs.size)
  (F:∀r c,r<x.length->c<3->w.cell? ⟨b,a+r*3+c,none⟩=some (hC x r c))(ab:N≠b)
  (ad:∀r c,r<1->c<3->w.cell? ⟨N,vo+r*3+c,none⟩=some (hC [v] r c))(hi:i<x.length)(hn:x.length<4294967296):
  Calls Tryz.prog 187 #[.slice (some ⟨b,a,none⟩) x.length P,.int .i64 (i:Nat),.slice (some ⟨N,vo,none⟩) 1 cv] w λe w'=>∃u γ',e=.returned u/\dA (λq _=>∃n,q=.cC n) γ w γ' w'/\Rd (dQ γ' w') (some (.cC 3,[])) (.own true .hold (x.take i++[v]++x.drop i)) u:=by
 have an:∀k,k<cs.size->w.frozen? ⟨b,k,none⟩=false:=λk A=>by
  have:=hu k A
  simp only[World.frozen?,hh]
  simpa using this
 have Q:∀k,k<cs.size->(w.cell? ⟨b,k,none⟩).isSome=true:=λk A=>by
  simp only[World.cell?,hh]
  simp[A]
 have v0:w.cell? ⟨N,vo,none⟩=some (hC [v] 0 0):=by simpa using ad 0 0 (by omega) (by omega)
 have ao:=af8 (cv:=cv) (o:=a+(i+1)*3) ab v0 hh hu (by omega);obtain⟨n1,J⟩:∃n1,n1=kc (x.length-i) 3 (λr c=>hC x (i+r) c):=⟨_,rfl⟩;have ae:n1.length=(x.length-i)*3:=by rw[J];exact pM
 have M:(kc 1 3 (hC [v])).length=1*3:=pM;obtain⟨W1,af⟩:∃W1,W1=w.drew.setCells b (a+(i+1)*3) n1:=⟨_,rfl⟩;have ah:∀R S sc,(Builtin.copy_ #[46,46] R #[.slice (some ⟨b,a+(i+1)*3,none⟩) (x.length+1-(i+1)) S,.slice (some ⟨b,a+i*3,none⟩) (x.length+1-i) sc]).run Tryz.prog w.drew=.ok (goInt (x.length-i:Nat)) W1:=λR S sc=>by
  rw[af]
  refine IW w.drew 46 46 R 50 b (a+(i+1)*3) _ S ⟨b,a+i*3,none⟩ _ sc (x.length-i) n1 Tryz.underlying46 Km (by simp only[Qa];split<;>omega) ae ?_ (λj hj=>Q _ (by omega)) (λj hj=>an _ (by omega)) ?_
  ·rw[J];refine Cw (w:=w.drew) λr c U Y=>?_;have:=F (i+r) c (by omega) Y;rw[show a+(i+r)*3+c=a+i*3+r*3+c by omega] at this;exact this
  ·rw[J];exact EG λr c U Y=>y7 (by omega) Y
 have C:=j7 b n1 (a+(i+1)*3) w.drew;rw[<-af] at C;obtain⟨tU,g1,g2,g3,g4⟩:=C.this cs e fr hh;obtain⟨W2,ai⟩:∃W2,W2=W1.setCells b (a+i*3) (kc 1 3 (hC [v])):=⟨_,rfl⟩;have aj:∀R S,(Builtin.copy_ #[46,46] R #[.slice (some ⟨b,a+i*3,none⟩) (x.length+1-i) S,.slice (some ⟨N,vo,none⟩) 1 cv]).run Tryz.prog W1=.ok (goInt (1:Nat)) W2:=λR S=>by
  rw[ai]
  refine IW W1 46 46 R 50 b (a+i*3) _ S ⟨N,vo,none⟩ 1 cv 1 _ Tryz.underlying46 Km (by simp only[Qa];split<;>omega) M (Cw λr c U Y=>?_) (λj hj=>?_) (λj hj=>?_) (EG λr c U Y=>y7 U Y)
  ·rw[<-ad r c U Y];exact ln (C.other N ab)
  ·simp only[World.cell?,g1];have:a+i*3+j<tU.size:=by omega
   simp[this]
  ·have:=hu (a+i*3+j) (by omega);simp only[World.frozen?,g1];simpa using this
 have E:=j7 b (kc 1 3 (hC [v])) (a+i*3) W1;rw[<-ai] at E;obtain⟨ap,d1,d2,d3,d4⟩:=E.this tU e fr g1;refine Calls.mono (ins_room hi hl (by omega) ao ah aj) λe' w' he=>?_;obtain⟨rfl,rfl⟩:=he;have aq:b<w.heap.size:=kU hf b (by rw[I];simp);have H:∀k,k≠b->w'.heap[k]?=w.heap[k]?:=λk A=>(E.other k A).trans (C.other k A);have ak:w'.heap.size=w.heap.size:=E.size.trans C.size;have Z:(x.take i++[v]++x.drop i).length=x.length+1:=by simp;omega
 refine⟨_,iu γ b (.at (.cC 3) [tg .hold]),rfl,?_,?_⟩
 ·exact{
   im:=λk A=>by
    have D:k≠b:=λe=>by rw[e,I] at A;cases A
    exact⟨by rw[jK D];exact A,H k D⟩
   at':=λk q π A hx=>by
    have D:k≠b:=λe=>by rw[e,I] at A;cases A;exact hx ⟨0,rfl⟩
    exact⟨by rw[jK D];exact A,H k D⟩
   fr:=λk _ h0=>by
    have D:k≠b:=λe=>by rw[e,I] at h0;cases h0
    exact⟨by rw[jK D];exact h0,H k D⟩
   size:=by rw[ak];exact hY _
   new:=λk A=>by
    rw[ak] at A
    rw[jK (by omega)];exact hf k A
   tape:=E.tape.trans C.tape
   os:=E.os.trans C.os
   output:=E.output.trans C.output}
 ·have am:=NC (γ':=iu γ b (.at (.cC 3) [tg .hold])) (y:=x.take i++[v]++x.drop i) (by rw[Z];exact hl) pO d1 (by rw[d2,g2];exact hu) (by rw[d2,g2];exact hs) λr c U aa=>by
    rw[Z] at U
    rw[VR (by omega)]
    by_cases c1:r<i
    ·rw[cJ c1,d4 _ (by rw[M];omega),g4 _ (by omega)];have:=F r c (by omega) aa;simp only[World.cell?,hh] at this;simpa using this
    ·rw[cK c1]
     by_cases c2:r=i
     ·rw[cJ c2,c2,d3 _ (by rw[M];omega) (by omega)];have:=rq (n:=1) (f:=hC [v]) (r:=0) (by omega) aa;rw[GV,ia] at this;exact this
     ·rw[cK c2,d4 _ (by rw[M];omega)];have:=g3 ((r-1-i)*3+c) (by rw[ae];omega) (by omega);rw[show a+(i+1)*3+((r-1-i)*3+c)=a+r*3+c by omega] at this;rw[this,J,rq (by omega) aa,show i+(r-1-i)=r-1 by omega]
  rw[Z] at am;exact am
end
section
variable{W:World}{γ:Nat->G}{w w':World}
theorem agQ{a:List dj}{v:dj}{i J vo cv b off cap:Nat}(hf:∀b,w.heap.size<=b->γ b=.fr)
  (an:γ b=.at (.cC 0) [tg .hold])(ao:γ J=.im)(hl:a.length<=cap)(ap:cap<a.length+1)
  (E:∀r c,r<a.length->c<3->w.cell? ⟨b,off+r*3+c,none⟩=some (hC a r c))
  (aq:∀r c,r<1->c<3->w.cell? ⟨J,vo+r*3+c,none⟩=some (hC [v] r c))(hi:i<a.length)(hn:a.length<4294967296):
  Calls Tryz.prog 187 #[.slice (some ⟨b,off,none⟩) a.length cap,.int .i64 (i:Nat),.slice (some ⟨J,vo,none⟩) 1 cv] w λe w'=>∃u γ',e=.returned u/\dA (λq _=>∃n,q=.cC n) γ w γ' w'/\Rd (dQ γ' w') (some (.cC 3,[])) (.own true .hold (a.take i++[v]++a.drop i)) u:=by
 have au:b<w.heap.size:=kU hf b (by rw[an];simp);have av:J<w.heap.size:=kU hf J (by rw[ao];simp);obtain⟨ii,z,a1,a2,a3,a4,a5⟩:=wG (T:=50) (k:=3) (by kernel_rfl);obtain⟨n0,N⟩:∃n0,n0=kc i 3 (hC a):=⟨_,rfl⟩;have ab:n0.length=i*3:=by rw[N];exact pM
 obtain⟨c',aw⟩:∃c',c'=grownCap w (i+(a.length+1-i)) cap 50:=⟨_,rfl⟩;have ad:a.length+1<=c':=by
  have:=grownCap_ge w (i+(a.length+1-i)) cap 50
  omega
 obtain⟨cs,Q⟩:∃cs,cs=n0.toArray++Builtin.zeroCells z.cells (a.length+1-i)++Builtin.zeroCells z.cells (c'-(i+(a.length+1-i))):=⟨_,rfl⟩;have ax:cs.size=c'*3:=by
  rw[Q,PY,PY,size_zeroCells,size_zeroCells,a4]
  simp only[LM,ab]
  omega
 obtain⟨W1,A⟩:∃W1,W1=w.drew.alloc (.cells cs 50):=⟨_,rfl⟩;have ay:(Builtin.append_ #[46,3] 46 #[.slice (some ⟨b,off,none⟩) i cap,.int .i64 ((a.length:Int)+1-i)]).run Tryz.prog w=.ok (.slice (some ⟨w.heap.size,0,none⟩) (a.length+1) c') W1:=by
  have ae:(Builtin.firstCells ii.size i (.slice (some ⟨b,off,none⟩) i cap)).run Tryz.prog w.drew=.ok n0.toArray w.drew:=by
   rw[a3,N]
   exact run_firstCells_some w.drew 3 i ⟨b,off,none⟩ i cap _ pM (Cw (w:=w.drew) λr c M H=>E r c (by omega) H)
  have aB:(a.length+1-i)*ii.bytes<=4294967296*1000:=LO (by omega) a5
  have aC:(i+(a.length+1-i))*ii.bytes<=4294967296*1000:=LO (by omega) a5
  have:=Lib.run_append_grow_zeros (P:=Tryz.prog) w 46 3 46 50 ii z .i64 .i64 Tryz.underlying46 Tryz.underlying3 a1 a2 (some ⟨b,off,none⟩) i cap n0 ae (a.length+1-i) (by omega) (by omega) (by omega) (by omega) (by omega) (growslice_fits (by omega) (by omega))
  rw[<-aw,<-Q,<-A,show i+(a.length+1-i)=a.length+1 by omega,show((a.length+1-i:Nat):Int)=(a.length:Int)+1-i by omega] at this
  exact this
 have R:W1.heap[w.heap.size]?=some (.cells cs 50 (0,0)):=by
  rw[A]
  show(w.heap.push _)[w.heap.size]?=_
  simp
 have S:∀k,k<w.heap.size->W1.heap[k]?=w.heap[k]?:=λk D=>by
  rw[A]
  show(w.heap.push _)[k]?=_
  rw[Array.getElem?_push,cK (by omega)]
 have az:W1.heap.size=w.heap.size+1:=by
  rw[A]
  show(w.heap.push _).size=_
  simp
 obtain⟨W2,af⟩:∃W2,W2=W1.setCells w.heap.size (i*3) (kc 1 3 (hC [v])):=⟨_,rfl⟩;have U:(kc 1 3 (hC [v])).length=1*3:=pM;have ah:∀Y,(Builtin.copy_ #[46,46] Y #[.slice (some ⟨w.heap.size,i*3,none⟩) (a.length+1-i) (c'-i),.slice (some ⟨J,vo,none⟩) 1 cv]).run Tryz.prog W1=.ok (goInt (1:Nat)) W2:=λY=>by
  rw[af]
  refine IW W1 46 46 Y 50 w.heap.size (i*3) _ _ ⟨J,vo,none⟩ 1 cv 1 _ Tryz.underlying46 Km (by simp only[Qa];split<;>omega) U (Cw λr c M H=>?_) (λj hj=>?_) (λj hj=>?_) (EG λr c M H=>y7 M H)
  ·rw[<-aq r c M H];exact ln (S J av)
  ·simp only[World.cell?,R];have:i*3+j<cs.size:=by omega
   simp[this]
  ·simp[World.frozen?,R]
 have x:=j7 w.heap.size (kc 1 3 (hC [v])) (i*3) W1;rw[<-af] at x;obtain⟨tU,g1,g2,g3,g4⟩:=x.this cs 50 (0,0) R;obtain⟨n1,I⟩:∃n1,n1=kc (a.length-i) 3 (λr c=>hC a (i+r) c):=⟨_,rfl⟩;have ai:n1.length=(a.length-i)*3:=by rw[I];exact pM
 obtain⟨W3,aj⟩:∃W3,W3=W2.drew.setCells w.heap.size ((i+1)*3) n1:=⟨_,rfl⟩;have ak:∀Y,(Builtin.copy_ #[46,46] Y #[.slice (some ⟨w.heap.size,(i+1)*3,none⟩) (a.length+1-(i+1)) (c'-(i+1)),.slice (some ⟨b,off+i*3,none⟩) (a.length-i) (cap-i)]).run Tryz.prog W2.drew=.ok (goInt (a.length-i:Nat)) W3:=λY=>by
  rw[aj]
  refine IW W2.drew 46 46 Y 50 w.heap.size ((i+1)*3) _ _ ⟨b,off+i*3,none⟩ _ _ (a.length-i) n1 Tryz.underlying46 Km (by simp only[Qa];split<;>omega) ai ?_ (λj hj=>?_) (λj hj=>?_) ?_
  ·rw[I];refine Cw (w:=W2.drew) λr c M H=>?_;have:=E (i+r) c (by omega) H;rw[show off+(i+r)*3+c=off+i*3+r*3+c by omega] at this;rw[<-this];exact ln (w:=w) (w':=W2.drew) ((x.other b (by omega)).trans (S b au))
  ·show(W2.cell? _).isSome=true;simp only[World.cell?,g1];have:(i+1)*3+j<tU.size:=by omega
   simp[this]
  ·show W2.frozen? _=false;simp[World.frozen?,g1]
  ·rw[I];exact EG λr c M H=>y7 (by omega) H
 have C:=j7 w.heap.size n1 ((i+1)*3) W2.drew;rw[<-aj] at C;obtain⟨aD,d1,d2,d3,d4⟩:=C.this tU 50 (0,0) g1;refine Calls.mono (ins_grow hi hl ap ad (by omega) ay ah ak) λe' w' he=>?_;obtain⟨rfl,rfl⟩:=he;have F:∀k,k<w.heap.size->w'.heap[k]?=w.heap[k]?:=λk D=>(C.other k (by omega)).trans ((x.other k (by omega)).trans (S k D));have aA:w'.heap.size=w.heap.size+1:=C.size.trans (x.size.trans az);have Z:(a.take i++[v]++a.drop i).length=a.length+1:=by simp;omega
 refine⟨_,iu γ w.heap.size (.at (.cC 3) [tg .hold]),rfl,?_,?_⟩
 ·exact{
   im:=λk D=>by
    have:=kU hf k (by rw[D];simp)
    exact⟨by rw[jK (by omega)];exact D,F k this⟩
   at':=λk q π D hx=>by
    have:=kU hf k (by rw[D];simp)
    exact⟨by rw[jK (by omega)];exact D,F k this⟩
   fr:=λk D h0=>⟨by rw[jK (by omega)];exact h0,F k D⟩
   size:=by omega
   new:=λk D=>by
    rw[aA] at D
    rw[jK (by omega)];exact hf k (by omega)
   tape:=C.tape.trans (x.tape.trans (by rw[A];rfl))
   os:=C.os.trans (x.os.trans (by rw[A];rfl))
   output:=C.output.trans (x.output.trans (by rw[A];rfl))}
 ·have am:=NC (γ':=iu γ w.heap.size (.at (.cC 3) [tg .hold])) (y:=a.take i++[v]++a.drop i) (off:=0) (cap:=c') (by rw[Z];exact ad) pO d1 mz.zero (by rw[d2,g2,ax];omega) λr c M aa=>by
    rw[Z] at M
    rw[VR (by omega),ia]
    by_cases c1:r<i
    ·rw[cJ c1,d4 _ (by omega),g4 _ (by rw[U];omega),Q,Array.append_assoc,P0 (by simp only[LM,ab];omega)];simp only[YF];rw[N,rq c1 aa]
    ·rw[cK c1]
     by_cases c2:r=i
     ·rw[cJ c2,c2,d4 _ (by omega),g3 _ (by rw[U];omega) (by omega)];have:=rq (n:=1) (f:=hC [v]) (r:=0) (by omega) aa;rw[GV,ia] at this;exact this
     ·rw[cK c2];have:=d3 ((r-1-i)*3+c) (by rw[ai];omega) (by omega);rw[show(i+1)*3+((r-1-i)*3+c)=r*3+c by omega] at this;rw[this,I,rq (by omega) aa,show i+(r-1-i)=r-1 by omega]
  rw[Z] at am;exact am
variable(W)
theorem agR(n:Nat):kO W 187 (WQ n):=by
 refine⟨enters Tryz.func187 (by kernel_rfl),λγ w I af(x:List dj×Int×List dj×Unit)(y:List dj)S hG U D=>?_⟩;obtain⟨xs,i,vs,_⟩:=x
 match I,U with
 |[v1,v2,v3],U=>
  obtain⟨P,h2,h3,h4⟩:=U;obtain rfl:=y5 h2;have P:Rd (dQ γ w) (some (.cC 0,[])) (.own true .hold xs) v1:=P;have D:BM n xs i vs=some y:=D;unfold BM at D;split at D
  ·rename_i Y;injection D with D;obtain⟨k0,k1,k2,k3⟩:=Y;obtain⟨i,rfl⟩:=gD k0;rw[fB] at D;have ah:i<=xs.length:=by omega
   obtain⟨v,rfl⟩:∃v,vs=[v]:=List.length_eq_one_iff.1 k2;rcases Og h3 with⟨J,_⟩|⟨Q,vo,cv,f,rfl,ai,a,M,Z⟩
   ·cases J
   have a:γ Q=.im:=a;have F:∀r c,r<1->c<3->w.cell? ⟨Q,vo+r*3+c,none⟩=some (hC [v] r c):=λr c hr hc=>Mz (rc:=dQ γ w) M Z r c (by simpa using hr) hc
   suffices H:Calls Tryz.prog 187 #[v1,.int .i64 (i:Nat),.slice (some ⟨Q,vo,none⟩) 1 cv] w λe w'=>∃u E,e=.returned u/\dA (λq _=>∃n,q=.cC n) γ w E w'/\Rd (dQ E w') (some (.cC 3,[])) (.own true .hold (xs.take i++[v]++xs.drop i)) u by
    refine Calls.mono H λe w' he=>?_;obtain⟨u,E,rfl,aa,ab⟩:=he;exact⟨u,E,rfl,aa,by rw[<-D];exact ab,trivial,trivial,trivial,trivial⟩
   by_cases N:i=xs.length
   ·subst N;have:=agO (cv:=cv) S P F k3;rw[sD,q7,G7];exact this
   ·have R:i<xs.length:=by omega
    rcases P.lu with⟨J,_⟩|⟨q,π,b,ad,cap,cs,e,fr,f2,hm,rfl,hl,j,hh,hu,hs,hc,hr⟩
    ·have J:xs=[]:=J;rw[J] at R;simp at R
    simp only[cW,eE] at hm;obtain⟨rfl,rfl⟩:=hm;have j:γ b=.at (.cC 0) [tg .hold]:=j;have hh:w.heap[b]?=some (.cells cs e fr):=hh;have hl:xs.length<=cap:=hl;have hs:ad+cap*3<=cs.size:=hs;have A:=Mz (rc:=dQ γ w) hc hr;have ae:Q≠b:=by rintro rfl;rw[j] at a;cases a
    by_cases C:xs.length+1<=cap
    ·exact agP S j hh C hu hs A ae F R k3
    ·exact agQ S j a hl (Db C) A F R k3
  ·cases D
end
end Go.Sd
